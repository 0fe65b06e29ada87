import Derived.Test.YtfohkkaphnfgoaaGreatDoorTak
import Derived.Test.YtfohkkaphnfgoaaGreatDoorTae
import Derived.Test.YtfohkkaphnfgoaaGreatDoorTai
set_option linter.all false
set_option maxRecDepth 100000
open Bool renaming and_eq_true→ye,and_true→uj,false_eq_true→yF,false_or→wX
open Go renaming IntKind→yY
open Int renaming ediv_emod_unique→uN,gcd→wN,gcd_dvd_left→uS,gcd_dvd_right→uI,mul_ediv_cancel'→tR,natAbs_ediv_of_dvd→vT,reduceEq→vC,tdiv_eq_ediv_of_dvd→tx,tmod_eq_emod_of_nonneg→xE
open List renaming any_cons→tu,cons_append→xu,drop→xg,drop_eq_getElem_cons→yN,drop_eq_nil_of_le→yT,drop_zero→yg,getD_eq_getElem?_getD→xK,getElem?_eq_getElem→wo,length_append→yW,length_cons→yC,length_nil→yK,length_take→yQ,map_take→yaG,replicate→yG,take_length→xQ,take_succ_eq_append_getElem→yB
open Nat renaming add_zero→y7,beq→yv,beq_refl→vm,ble→yE,ble_eq_true_of_le→yx,blt→yM,div_le_self→vh,gcd→wD,gcd_comm→uC,gcd_rec→ybC,le_of_ble_eq_true→yu,le_refl→yr,min_eq_left→xX,mod_eq_of_lt→yS,mod_lt→xz,mul_one→yh,mul_zero→xI,pow_le_pow_right→xD,pow_succ→xk,reduceAdd→yb,reduceEqDiff→ya,reduceLT→yt,reduceLeDiff→yi,strongRecOn→vV,zero_add→yd,zero_le→tq
open Option.some renaming injEq→yc
namespace VE
section
open Go (IntKind)
section
variable {P:aG} {L:Lib} {f:cD} {tm:Env} {hp:Hp} {ct:Nat}
def akW (k:yY) (n:Int):cellsOf (.int k n)=[.int k n]:=(rfl)
def ajB (b:Bool):cellsOf (.bool b)=[.bool b]:=(rfl)
def akX (s:List Nat):cellsOf (.str s)=[.str s]:=(rfl)
def ajC:cellsOf .ab=[.ab]:=(rfl)
def akY (e:Bool) (n:Nat) (cs:List AV):cellsOf (.aJ e n cs)=[.aJ e n cs]:=(rfl)
def akZ (id o n:Nat):cellsOf (.aC id o n)=[.aC id o n]:=(rfl)
def ak0 (id o:Nat):cellsOf (.ptr id o)=[.ptr id o]:=(rfl)
def amY (g:Fr) (a b:List AV):cellsOf (.fn g a b)=[.fn g a b]:=(rfl)
def ak1 (cs:List AV):cellsOf (.agg cs)=cs:=(rfl)
def Fa (k:yY) (n:Int):bm (.int k n)=true:=(rfl)
def amZ (b:Bool):bm (.bool b)=true:=(rfl)
def SQ (s:List Nat):bm (.str s)=true:=(rfl)
def am0:bm .ab=true:=(rfl)
def apm (e:Bool) (n:Nat) (cs:List AV):bm (.aJ e n cs)=true:=(rfl)
def apn (id o n:Nat):bm (.aC id o n)=true:=(rfl)
def apo (id o:Nat):bm (.ptr id o)=true:=(rfl)
def arL (g:Fr) (a b:List AV):bm (.fn g a b)=true:=(rfl)
def am1:bO []=true:=(rfl)
def ZP (v:AV) (r:List AV):bO (v::r)=(bm v&&bO r):=(rfl)
def ak2:aH []=true:=(rfl)
def ajD (v:AV) (r:List AV):aH (v::r)=(aU v&&aH r):=(rfl)
def arM (id o:Nat):aU (.ptr id o)=false:=(rfl)
def arN (id o n:Nat):aU (.aC id o n)=false:=(rfl)
def at7 (g:Nat) (a b:List AV):aU (.fn (.f g) a b)=(aH a&&aH b):=(rfl)
def avB (l:Nat) (a b:List AV):aU (.fn (.y l) a b)=false:=(rfl)
def arO (cs:List AV):aU (.agg cs)=aH cs:=(rfl)
def arP (cs:List AV):aU (.au cs)=aH cs:=(rfl)
def BN (ct sz:Nat) (cs:List AV):Option (AV×Obj):=bif yv cs.length sz&&bO cs then some (.ptr ct 0,.cells true (aH cs) true sz cs) else none
def arQ (sz:Nat) (x:X):cT tm hp ct (.box sz x)=BN ct sz (cellsOf (aA tm x)):=rfl
def aua {v:AV} (h:bm v=true):BN ct 1 [v]=some (.ptr ct 0,.cells true (aU v&&true) true 1 [v]):=by
 simp [BN,bO,aH,h]
def aK {cs:List AV} {n:Nat} (hn:cs.length=n) (h:bO cs=true):BN ct n cs=some (.ptr ct 0,.cells true (aH cs) true n cs):=by
 subst hn;simp [BN,h]
def fE (hp:Hp) (ct id o sz:Nat) (new:List AV) (q:Option Obj):gV:=
 match q with
 | some (.cells true pu ex z cs)=>bif yv new.length sz&&yE (o+sz) cs.length&&bO new then some (.au [],bg hp id (.cells true (pu&&aH new) ex z (over o new cs)),ct) else none
 | _=>none
def stV (hp:Hp) (ct sz:Nat) (p:AV) (new:List AV):gV:=match p with | .ptr id o=>fE hp ct id o sz new (az hp id) | _=>none
def aaC (sz:Nat) (x v:X):db tm hp ct (.st sz x v)=stV hp ct sz (aA tm x) (cellsOf (aA tm v)):=rfl
def aeR (sz id o:Nat) (new:List AV):stV hp ct sz (.ptr id o) new=fE hp ct id o sz new (az hp id):=rfl
def avC {v u:AV} {id z:Nat} {pu ex:Bool} (h:bm v=true):fE hp ct id 0 1 [v] (some (.cells true pu ex z [u]))=some (.au [],bg hp id (.cells true (pu&&(aU v&&true)) ex z [v]),ct):=by
 simp [fE,bO,aH,h,over];rfl
def mD {new cs:List AV} {id o sz z:Nat} {pu ex:Bool} (h1:new.length=sz) (h2:o+sz<=cs.length) (h:bO new=true):
  fE hp ct id o sz new (some (.cells true pu ex z cs))=some (.au [],bg hp id (.cells true (pu&&aH new) ex z (over o new cs)),ct):=by
 subst h1;simp [fE,h,yx h2]
def Om (ct n sz:Nat) (q:Option (List AV)):Option (AV×Obj):=match q with | some cs=>bif yv cs.length (n*sz) then some (.aC ct 0 n,.cells true (aH cs) true sz cs) else none | none=>none
def apq (n sz:Nat) (z:List AV) (ps:List (Nat×Nat×X)):cT tm hp ct (.bI n sz z ps)=Om ct n sz (fill tm z ps):=by
 simp only [cT,Om];cases fill tm z ps<;>rfl
def apr {n sz:Nat} {cs:List AV} (h:cs.length=n*sz):Om ct n sz (some cs)=some (.aC ct 0 n,.cells true (aH cs) true sz cs):=by
 simp [Om,h]
def fZ (tm:Env) (cs:List AV) (o sz:Nat) (new:List AV) (r:List (Nat×Nat×X)):Option (List AV):=
 bif yv new.length sz&&yE (o+sz) cs.length&&bO new then fill tm (over o new cs) r else none
def am2 (cs:List AV):fill tm cs []=some cs:=rfl
def ak3 (cs:List AV) (o sz:Nat) (x:X) (r:List (Nat×Nat×X)):fill tm cs ((o,sz,x)::r)=fZ tm cs o sz (cellsOf (aA tm x)) r:=rfl
def abL {cs:List AV} {o:Nat} {v:AV} {r:List (Nat×Nat×X)} (h1:o+1<=cs.length) (h2:bm v=true):fZ tm cs o 1 [v] r=fill tm (over o [v] cs) r:=by
 simp [fZ,bO,h2,yx h1]
def jw {cs new:List AV} {o sz:Nat} {r:List (Nat×Nat×X)} (h0:new.length=sz) (h1:o+sz<=cs.length) (h2:bO new=true):fZ tm cs o sz new r=fill tm (over o new cs) r:=by
 subst h0;simp [fZ,h2,yx h1]
def aub (v u:AV) (r:List AV):over 0 [v] (u::r)=v::r:=rfl
def auc (v a u:AV) (r:List AV):over 1 [v] (a::u::r)=a::v::r:=rfl
def aud (v a b u:AV) (r:List AV):over 2 [v] (a::b::u::r)=a::b::v::r:=rfl
def aue (v a b c u:AV) (r:List AV):over 3 [v] (a::b::c::u::r)=a::b::c::v::r:=rfl
def auf (v a b c d u:AV) (r:List AV):over 4 [v] (a::b::c::d::u::r)=a::b::c::d::v::r:=rfl
def aug (v a b c d e u:AV) (r:List AV):over 5 [v] (a::b::c::d::e::u::r)=a::b::c::d::e::v::r:=rfl
def Af (ct sz cG:Nat) (zero:List AV) (l c:Option Nat):Option (AV×Obj):=
 match l,c with
 | some l,some c=>bif yE l c&&(yE c room&&(yE (c*cG) room&&(yv zero.length sz&&bO zero))) then some (.aC ct 0 l,.cells true (aH zero) (yv l c) sz (yG l zero).flatten) else none
 | _,_=>none
def arR (sz cG:Nat) (z:List AV) (l c:X):cT tm hp ct (.gU sz cG z l c)=Af ct sz cG z (dE (aA tm l)) (dE (aA tm c)):=by
 simp only [cT,Af]
 grind
def Jy {sz cG l:Nat} {z:List AV} (h1:l<=1099511627776) (h2:l*cG<=1099511627776) (h3:z.length=sz) (h4:bO z=true):
  Af ct sz cG z (some l) (some l)=some (.aC ct 0 l,.cells true (aH z) true sz (yG l z).flatten):=by
 subst h3;simp [Af,h4,yx (show l<=room from h1),yx (show l*cG<=room from h2),yx (yr l)]
def DS (hp:Hp) (ct sz cG:Nat) (s:AV) (src:Option (Nat×List AV)):gV:=
 match src with
 | none=>none
 | some (m,new)=>
  match s with
  | .ab=>
   bif yv m 0 then some (.ab,hp,ct)
   else bif yE m room&&(yE (m*cG) room&&yM 0 sz) then some (.aC ct 0 m,(ct,.cells true (aH new) false sz new)::hp,ct+1) else none
  | .aJ true n cs=>
   bif yv m 0 then some (.aJ true n cs,hp,ct)
   else bif yE (n+m) room&&(yE ((n+m)*cG) room&&(yv cs.length (n*sz)&&yM 0 sz)) then some (.aC ct 0 (n+m),(ct,.cells true (aH cs&&aH new) false sz (cs++new))::hp,ct+1) else none
  | .aC id o n=>
   match az hp id with
   | some (.cells true pu _ z cs)=>
    bif yv z sz&&(yE (n+m) room&&(yE ((n+m)*cG) room&&(yE (o+n*sz) cs.length&&(yM 0 sz&&bO new)))) then
     some (.aC ct 0 (n+m),(ct,.cells true (pu&&aH new) false sz (slice o (n*sz) cs++new))::eG hp id,ct+1)
    else none
   | _=>none
  | _=>none
def ak4 (sz cG:Nat) (s x:X):db tm hp ct (.cX sz cG s x)=DS hp ct sz cG (aA tm s) (zK hp sz (aA tm x)):=by
 simp only [db,DS]
 cases zK hp sz (aA tm x) with
 | none=>rfl
 | some q=>obtain ⟨m,new⟩:=q;cases aA tm s<;>rfl
def ajE (sz id o n:Nat):zK hp sz (.aC id o n)=qQ hp sz (.aC id o n):=rfl
def ajF (sz:Nat) (e:Bool) (n:Nat) (cs:List AV):zK hp sz (.aJ e n cs)=qQ hp sz (.aJ e n cs):=rfl
def ai4 (sz:Nat):zK hp sz .ab=some (0,[]):=rfl
def LH (o n sz:Nat) (q:Option Obj):Option (Nat×List AV):=match q with | some (.cells _ _ _ _ cs)=>bif yE (o+n*sz) cs.length then some (n,slice o (n*sz) cs) else none | _=>none
def ai5 (sz id o n:Nat):qQ hp sz (.aC id o n)=LH o n sz (az hp id):=rfl
def auh (rw pu ex:Bool) (z:Nat) (v:AV):LH 0 1 1 (some (.cells rw pu ex z [v]))=some (1,[v]):=rfl
def gC {sz cG:Nat} {new:List AV} {m:Nat} (hm:0<m) (h1:m<=1099511627776) (h2:m*cG<=1099511627776) (hs:0<sz):
  DS hp ct sz cG .ab (some (m,new))=some (.aC ct 0 m,(ct,.cells true (aH new) false sz new)::hp,ct+1):=by
 have e1:yv m 0=false:=iC (by omega);have e2:yM 0 sz=true:=yx hs;simp [DS,e1,e2,yx (show m<=room from h1),yx (show m*cG<=room from h2)]
def fV {sz cG id n m:Nat} {pu ex:Bool} {cs new:List AV} (hg:az hp id=some (.cells true pu ex sz cs)) (hl:cs.length=n*sz) (h1:n+m<=1099511627776) (h2:(n+m)*cG<=1099511627776) (hs:0<sz) (ho:bO new=true):
  DS hp ct sz cG (.aC id 0 n) (some (m,new))=some (.aC ct 0 (n+m),(ct,.cells true (pu&&aH new) false sz (cs++new))::eG hp id,ct+1):=by
 have e2:yM 0 sz=true:=yx hs;simp only [DS,hg];simp [e2,ho,yx (show n+m<=room from h1),yx (show (n+m)*cG<=room from h2),<-hl,slice,yx (yr cs.length)]
def afA (n:Nat) (g:Nat) (cap:List AV) (q:Option (List AV×Hp)):Option (AV×Hp):=match q with | some (first,hp)=>(match cC n hp cap with | some (OF,eJ)=>some (.fn (.f g) first OF,eJ) | none=>none) | none=>none
def afB (g:Nat) (first:List AV) (q:Option (List AV×Hp)):Option (AV×Hp):=match q with | some (cap,hp)=>some (.fn (.f g) first cap,hp) | none=>none
def arS (n g:Nat) (first cap:List AV):freeze (n+1) hp (.fn (.f g) first cap)=afA n g cap (cC n hp first):=rfl
def arT (n g:Nat) (first cap:List AV):afA n g cap (some (first,hp))=afB g first (cC n hp cap):=rfl
def arU (g:Nat) (first cap:List AV):afB g first (some (cap,hp))=some (.fn (.f g) first cap,hp):=rfl
def afC (o:Nat) (q:Option (Bool×Nat×List AV×Hp)):Option (AV×Hp):=match q with | some (_,_,cs,hp)=>some (.aQ (cs.drop o),hp) | none=>none
def aps (n id o:Nat):freeze (n+1) hp (.ptr id o)=afC o (rQ n hp id):=rfl
def arV (o:Nat) (ex:Bool) (sz:Nat) (cs:List AV):afC o (some (ex,sz,cs,hp))=some (.aQ (cs.drop o),hp):=rfl
def lU (o k:Nat) (q:Option (Bool×Nat×List AV×Hp)):Option (AV×Hp):=
 match q with
 | some (ex,sz,cs,hp)=>bif yE (o+k*sz) cs.length then some (.aJ (ex&&yM 0 sz&&yv (o+k*sz) cs.length) k (slice o (k*sz) cs),hp) else none
 | none=>none
def apt (n id o k:Nat):freeze (n+1) hp (.aC id o k)=lU o k (rQ n hp id):=rfl
def qK {sz k:Nat} {cs:List AV} (ex:Bool) (hl:cs.length=k*sz) (hs:0<sz):lU 0 k (some (ex,sz,cs,hp))=some (.aJ ex k cs,hp):=by
 have e2:yM 0 sz=true:=yx hs;simp [lU,<-hl,e2,slice,yx (yr cs.length)]
def U3 (n id:Nat) (hp:Hp) (q:Option Obj):Option (Bool×Nat×List AV×Hp):=
 match q with
 | some (.cells rw pu ex sz cs)=>
  bif pu then some (ex,sz,cs,bif rw then bg hp id (.cells false true ex sz cs) else hp)
  else match cC n hp cs with
   | some (ej,ap)=>some (ex,sz,ej,bg ap id (.cells false false ex sz cs))
   | none=>none
 | _=>none
def apu (n id:Nat):rQ (n+1) hp id=U3 n id hp (az hp id):=rfl
def arW (n id:Nat) (ex:Bool) (sz:Nat) (cs:List AV):U3 n id hp (some (.cells true true ex sz cs))=some (ex,sz,cs,bg hp id (.cells false true ex sz cs)):=rfl
def arX (n id:Nat) (ex:Bool) (sz:Nat) (cs:List AV):U3 n id hp (some (.cells false true ex sz cs))=some (ex,sz,cs,hp):=rfl
def a8 (n:Nat) (cs:List AV) (h:cC n hp cs=some (cs,hp)):freeze (n+1) hp (.agg cs)=some (.agg cs,hp):=by
 simp only [freeze,h]
def oX {id n sz:Nat} {ex:Bool} {cs:List AV} (hg:az hp id=some (.cells true true ex sz cs)) (hl:cs.length=n*sz) (hs:0<sz):result hp (.aC id 0 n)=some (.bW ex sz n cs):=by
 have e2:yM 0 sz=true:=yx hs;simp only [result,qU,hg,yd,<-hl,yx (yr cs.length),yz,e2,uj,slice,yg,xQ]
 simp
def ak5 {k id n sz:Nat} {ex:Bool} {cs:List AV} (hg:az hp id=some (.cells true true ex sz cs)) (hl:cs.length=n*sz) (hs:0<sz):qU k hp (.aC id 0 n)=some (.bW ex sz n cs,eG hp id):=by
 have e2:yM 0 sz=true:=yx hs;simp only [qU,hg,yd,<-hl,yx (yr cs.length),yz,e2,uj,slice,yg,xQ]
 simp
def aiF {id n sz:Nat} {ex:Bool} {cs:List AV} {k:yY} {b:Int} (hg:az hp id=some (.cells true true ex sz cs)) (hl:cs.length=n*sz) (hs:0<sz):result hp (.au [.aC id 0 n,.int k b])=some (.au [.bW ex sz n cs,.int k b]):=by
 have h1:Fi [.aC id 0 n,.int k b]=some [id]:=rfl;simp only [result,h1,zF,ak5 hg hl hs];rfl
def ais (b:Bool):result hp (.au [.ab,.bool b])=some (.au [.ab,.bool b]):=rfl
def ait (k:yY) (b:Int):result hp (.au [.ab,.int k b])=some (.au [.ab,.int k b]):=rfl
def aiu (e:Bool) (n:Nat) (cs:List AV) (k:yY) (b:Int):result hp (.au [.aJ e n cs,.int k b])=some (.au [.aJ e n cs,.int k b]):=rfl
def ak6 (s:St):pG [] s=some s:=rfl
def W2 (t:Nat) (r:List Nat) (tm:Env) (ct base:Nat) (q:Option (AV×Hp)):Option St:=match q with | some (v,hp)=>pG r ⟨(t,v)::tm,hp,ct,base⟩ | none=>none
def ajG (t:Nat) (r:List Nat) (tm:Env) (hp:Hp) (ct base:Nat):pG (t::r) ⟨tm,hp,ct,base⟩=W2 t r tm ct base (freeze deep hp (ah tm t)):=by
 simp only [pG,W2];cases freeze deep hp (ah tm t)<;>rfl
def aui (t:Nat) (r:List Nat) (tm:Env) (ct base:Nat) (v:AV) (hp:Hp):W2 t r tm ct base (some (v,hp))=pG r ⟨(t,v)::tm,hp,ct,base⟩:=rfl
end
attribute [go_sem] ais ait aiu akW ajB akX ajC akY akZ ak0 amY ak1 Fa amZ SQ am0 apm apn apo arL am1 ZP
 ak2 ajD arM arN at7 avB arO arP arQ aua aaC aeR avC apq am2 ak3 aub auc aud aue auf aug arR
 ak4 ajE ajF ai4 ai5 auh arS arT arU aps arV apt qK apr abL apu arW arX ak6 ajG aui
 Bool.and_false Bool.false_and yg eq_self
end
section
open Go (IntKind)
def aaD:∀hp:Hp,jt 0 hp=[]
 | []=>rfl
 | (id,o)::r=>by
  have:yM id 0=false:=rfl
  simp only [jt,this,yO,aaD r]
def adl (f:Nat->Option Nat):∀hp:Hp,my 0 f hp=[]
 | []=>rfl
 | (id,o)::r=>by
  have:yM id 0=false:=rfl
  simp only [my,this,yO,adl f r]
def pos (seen:List Nat):Nat->Option Nat:=fun id=>lQ id seen 0
def U4 (tm:Env) (hp:Hp) (seen:List Nat):St:=⟨ll (pos seen) tm,kV hp (pos seen) seen 0 [],seen.length,0⟩
def zm (hp:Hp):Nat->List Nat->List Nat->List Nat:=reach hp 0
def an (live:List Nat) (tm:Env) (hp:Hp) (ct:Nat):aT live ⟨tm,hp,ct,0⟩=U4 (eh tm live) hp (zm hp 100000 (jx (eh tm live)) []):=by
 have e:∀seen,kU 0 seen=pos seen:=fun seen=>by
  funext id
  have:yM id 0=false:=rfl
  simp only [kU,this,yO,pos]
 simp only [aT,aaD,List.append_nil,e,adl,U4,zm,yd]
def ak7:jx []=[]:=rfl
def ajH (i:Nat) (v:AV) (r:Env):jx ((i,v)::r)=refs v++jx r:=rfl
def am3 (k:yY) (n:Int):refs (.int k n)=[]:=rfl
def ak8 (b:Bool):refs (.bool b)=[]:=rfl
def am4 (s:List Nat):refs (.str s)=[]:=rfl
def ak9:refs .ab=[]:=rfl
def am5 (e:Bool) (n:Nat) (cs:List AV):refs (.aJ e n cs)=[]:=rfl
def ala (cs:List AV):refs (.aQ cs)=[]:=rfl
def ajI:refs .undef=[]:=rfl
def am6 (id o:Nat):refs (.ptr id o)=[id]:=rfl
def am7 (id o n:Nat):refs (.aC id o n)=[id]:=rfl
def apv (g:Nat) (a b:List AV):refs (.fn (.f g) a b)=iO a++iO b:=rfl
def arY (l:Nat) (a b:List AV):refs (.fn (.y l) a b)=[l]:=rfl
def am8 (cs:List AV):refs (.agg cs)=iO cs:=rfl
def alb:iO []=[]:=rfl
def ajJ (v:AV) (r:List AV):iO (v::r)=refs v++iO r:=rfl
def Ps (hp:Hp) (n id:Nat) (jg seen:List Nat) (q:Option Obj):List Nat:=match q with | some o=>zm hp n (od o++jg) (seen++[id]) | none=>zm hp n jg seen
def Pt (hp:Hp) (n id:Nat) (jg seen:List Nat) (b:Bool):List Nat:=bif b then zm hp n jg seen else Ps hp n id jg seen (az hp id)
def apw (hp:Hp) (n:Nat) (seen:List Nat):zm hp (n+1) [] seen=seen:=rfl
def am9 (hp:Hp) (n id:Nat) (jg seen:List Nat):zm hp (n+1) (id::jg) seen=Pt hp n id jg seen (lP id seen):=by
 have:yM id 0=false:=rfl
 simp only [zm,reach,this,wX,Pt,Ps]
 cases lP id seen with
 | true=>rfl
 | false=>simp only [yO];cases az hp id<;>rfl
def arZ (hp:Hp) (n id:Nat) (jg seen:List Nat):Pt hp n id jg seen true=zm hp n jg seen:=rfl
def ar0 (hp:Hp) (n id:Nat) (jg seen:List Nat):Pt hp n id jg seen false=Ps hp n id jg seen (az hp id):=rfl
def ar1 (hp:Hp) (n id:Nat) (jg seen:List Nat) (o:Obj):Ps hp n id jg seen (some o)=zm hp n (od o++jg) (seen++[id]):=rfl
def ana (i:Nat):lP i []=false:=rfl
def anb (i:Nat) (r:List Nat):lP i (i::r)=true:=by simp only [lP,vm,yz]
def alc {i j:Nat} (r:List Nat) (h:j≠i):lP i (j::r)=lP i r:=by simp only [lP,iC h,yO]
def apx (rw ex:Bool) (sz:Nat) (cs:List AV):od (.cells rw true ex sz cs)=[]:=rfl
def apy (rw ex:Bool) (sz:Nat) (cs:List AV):od (.cells rw false ex sz cs)=iO cs:=rfl
def anc (tm:Env) (ps:List Nat) (a b:VC) (st:Nat) (pe:z7):od (.lp tm ps a b st pe)=jx tm:=rfl
def apz (i:Nat) (r:List Nat) (k:Nat):lQ i (i::r) k=some k:=by simp only [lQ,vm,yz]
def ane {i j:Nat} (r:List Nat) (k:Nat) (h:j≠i):lQ i (j::r) k=lQ i r (k+1):=by simp only [lQ,iC h,yO]
def aeS (o:Nat) (q:Option Nat):AV:=match q with | some j=> .ptr j o | none=> .undef
def aeT (o n:Nat) (q:Option Nat):AV:=match q with | some j=> .aC j o n | none=> .undef
def anf (s:List Nat):ll (pos s) []=[]:=rfl
def ald (s:List Nat) (i:Nat) (v:AV) (r:Env):ll (pos s) ((i,v)::r)=(i,bZ (pos s) v)::ll (pos s) r:=rfl
def apA (s:List Nat) (k:yY) (n:Int):bZ (pos s) (.int k n)= .int k n:=rfl
def ang (s:List Nat) (b:Bool):bZ (pos s) (.bool b)= .bool b:=rfl
def apB (s:List Nat) (t:List Nat):bZ (pos s) (.str t)= .str t:=rfl
def anh (s:List Nat):bZ (pos s) .ab= .ab:=rfl
def apC (s:List Nat) (e:Bool) (n:Nat) (cs:List AV):bZ (pos s) (.aJ e n cs)= .aJ e n cs:=rfl
def ani (s:List Nat) (cs:List AV):bZ (pos s) (.aQ cs)= .aQ cs:=rfl
def ale (s:List Nat):bZ (pos s) .undef= .undef:=rfl
def apD (s:List Nat) (id o:Nat):bZ (pos s) (.ptr id o)=aeS o (lQ id s 0):=rfl
def apE (s:List Nat) (id o n:Nat):bZ (pos s) (.aC id o n)=aeT o n (lQ id s 0):=rfl
def ar2 (s:List Nat) (g:Nat) (a b:List AV):bZ (pos s) (.fn (.f g) a b)= .fn (.f g) (fB (pos s) a) (fB (pos s) b):=rfl
def apF (s:List Nat) (cs:List AV):bZ (pos s) (.agg cs)= .agg (fB (pos s) cs):=rfl
def anj (s:List Nat):fB (pos s) []=[]:=rfl
def alf (s:List Nat) (v:AV) (r:List AV):fB (pos s) (v::r)=bZ (pos s) v::fB (pos s) r:=rfl
def apG (o j:Nat):aeS o (some j)= .ptr j o:=rfl
def apH (o n j:Nat):aeT o n (some j)= .aC j o n:=rfl
def U5 (hp:Hp) (f:Nat->Option Nat) (r:List Nat) (k:Nat) (acc:Hp) (q:Option Obj):Hp:=match q with | some o=>kV hp f r (k+1) ((k,lz f o)::acc) | none=>kV hp f r (k+1) acc
def alg (hp:Hp) (s:List Nat) (k:Nat) (acc:Hp):kV hp (pos s) [] k acc=acc:=rfl
def ajK (hp:Hp) (s:List Nat) (id:Nat) (r:List Nat) (k:Nat) (acc:Hp):kV hp (pos s) (id::r) k acc=U5 hp (pos s) r k acc (az hp id):=by
 simp only [kV,U5];cases az hp id<;>rfl
def ar3 (hp:Hp) (s r:List Nat) (k:Nat) (acc:Hp) (o:Obj):U5 hp (pos s) r k acc (some o)=kV hp (pos s) r (k+1) ((k,lz (pos s) o)::acc):=rfl
def ar4 (f:Nat->Option Nat) (rw ex:Bool) (sz:Nat) (cs:List AV):lz f (.cells rw true ex sz cs)= .cells rw true ex sz cs:=rfl
def ar5 (f:Nat->Option Nat) (rw ex:Bool) (sz:Nat) (cs:List AV):lz f (.cells rw false ex sz cs)= .cells rw false ex sz (fB f cs):=rfl
def apI (f:Nat->Option Nat) (tm:Env) (ps:List Nat) (a b:VC) (st:Nat) (pe:z7):lz f (.lp tm ps a b st pe)= .lp (ll f tm) ps a b st pe:=rfl
def apJ (tm:Env) (hp:Hp) (seen:List Nat):U4 tm hp seen=⟨ll (pos seen) tm,kV hp (pos seen) seen 0 [],seen.length,0⟩:=rfl
attribute [go_sem] ak7 ajH am3 ak8 am4 ak9 am5 ala ajI am6 am7 apv arY am8 alb ajJ apw am9 arZ ar0 ar1
 ana anb alc apx apy anc apz ane anf ald apA ang apB anh apC ani ale apD apE ar2 apF anj alf apG apH
 alg ajK ar3 ar4 ar5 apI apJ yC yK
end
section
open Go (IntKind)
section
variable {P:aG} {L:Lib}
def aaE {α:Type} {p:α->Bool} {l:List α} {i:Nat} (h:i<l.length):(l.drop i).any p=(p l[i]||(l.drop (i+1)).any p):=by
 rw [yN h,tu]
def avD (h:Has P L 132 Kb) {v:AV} {l:List Int} (hv:bl v l) (hl:l.length<=1000000) {g:Nat} {cap:List AV} {p:Int->Bool} (hc:aH cap=true)
  (hz:∀x hp,cC deep hp (aa x::cap)=some (aa x::cap,hp)) (hg:∀x,ae P L g (aa x::cap) (.bool (p x))):∃n:Int,ae P L 132 [v,.fn (.f g) [] cap] (aa n)/\decide (0<=n)=l.any p:=by
 have rG:aU (.fn (.f g) [] cap)=true:=by simp [aU,aH,hc]
 simp only [ae,deep] at hg hz;have key:=IS (P:=P) (L:=L) (live:=[0,1,7,8]) (a:=NT)
  (I:=fun k s=>∃tm ct i,s=⟨tm,[],ct,0⟩/\ah tm 0=v/\ah tm 1= .fn (.f g) [] cap/\ah tm 7=aa l.length/\ah tm 8=aa (i:Nat)/\i+k=l.length/\(l.drop i).any p=l.any p)
  (Q:=fun ex s=>∃tm,s=⟨tm,[],0,0⟩/\((∃n:Int,ex= .ret/\ah tm 4=aa n/\0<=n/\l.any p=true)\/(ex= .exit 0/\l.any p=false))) ?_ l.length
 ·simp only [ae];rw [ay h];simp only [go_sem,ya,Kb,hv.len];generalize hq:D P L (.loop [0,1,7,8] NT) _=q;obtain ⟨ex,s,rfl,tm,rfl,h2⟩:=bD hq key ⟨_,_,0,rfl,rfl,rfl,rfl,rfl,by omega,rfl⟩;rcases h2 with ⟨n,rfl,h2,h3,h4⟩ | ⟨rfl,h2⟩
  ·exact ⟨n,by simp only [go_sem,h2],by rw [h4];simpa using h3⟩
  ·exact ⟨-1,by simp only [go_sem],by rw [h2];decide⟩
 ·rintro k s ⟨tm,ct,i,rfl,h0,h1,h7,h8,hk,hf⟩;rw [Mw (by simp only [go_sem,h0,h1,h7,h8,hv.pu,rG])];simp only [go_sem,ya,h0,h1,h7,h8,NT];by_cases hi:i<l.length
  ·have bL:(i:Int)<l.length:=by omega
   rw [aaE hi] at hf
   cases fe:p l[i] with
   | false=>
    left
    simp only [go_sem,ya,bL,hv.aZ hi,hz,hg,fe];refine ⟨_,k-1,rfl,by omega,_,_,i+1,rfl,?_⟩;rw [wrap64 (by omega) (by omega)];rw [fe,wX] at hf;simp only [go_sem,ya];exact ⟨trivial,trivial,trivial,rfl,by omega,hf⟩
   | true=>
    right
    simp only [go_sem,ya,bL,hv.aZ hi,hz,hg,fe];refine ⟨_,_,rfl,by simp,_,rfl,.inl ⟨i,rfl,?_,by omega,?_⟩⟩
    ·simp only [go_sem]
    ·rw [<-hf,fe,Bool.true_or]
  ·right
   have bL:¬(i:Int)<l.length:=by omega
   simp only [go_sem,bL];refine ⟨_,_,rfl,by simp,_,rfl,.inr ⟨rfl,?_⟩⟩;rw [<-hf,yT (by omega)];rfl
def s95 (h:Has P L 95 Qg) (U6:Has P L 132 Kb) {v:AV} {l:List Int} (hv:bl v l) (hl:l.length<=1000000) {g:Nat} {cap:List AV} {p:Int->Bool} (hc:aH cap=true)
  (hz:∀x hp,cC deep hp (aa x::cap)=some (aa x::cap,hp)) (hg:∀x,ae P L g (aa x::cap) (.bool (p x)))
  (jj:∀n hp,freeze (n+500) hp (.fn (.f g) [] cap)=some (.fn (.f g) [] cap,hp)):ae P L 95 [v,.fn (.f g) [] cap] (.bool (l.any p)):=by
 obtain ⟨n,h1,h2⟩:=avD U6 hv hl hc hz hg;unfold ae at h1 ⊢;rw [ay h];have avE:∀hp,freeze 998 hp (.fn (.f g) [] cap)=some (.fn (.f g) [] cap,hp):=fun hp=>jj 498 hp
 simp only [go_sem,ya,Qg,hv.af,avE,h1,h2]
def s94 (h:Has P L 94 GQ) {m:Int} (hm:0<=m) (gJ:m<=1000000) (x:Int):ae P L 94 [aa x,.aQ [aa m]] (.bool (decide (x< -m\/m<x))):=by
 unfold ae;rw [ay h];by_cases h1:x< -m
 ·simp only [go_sem,ya,GQ,Ni,wrap64 (n:=0-m) (by omega) (by omega),show x<0-m by omega,h1,true_or]
 ·by_cases h2:m<x
  ·simp only [go_sem,ya,GQ,Ni,wrap64 (n:=0-m) (by omega) (by omega),show ¬x<0-m by omega,h1,h2,or_true]
  ·simp only [go_sem,ya,GQ,Ni,wrap64 (n:=0-m) (by omega) (by omega),show ¬x<0-m by omega,h1,h2,or_self]
def ank (m:Int) (l:List Int):l.any (fun x=>decide (x< -m\/m<x))=fQ (-m) m l:=by
 induction l with
 | nil=>rfl
 | cons a r ih=>
  simp only [tu,fQ,ih]
  grind
structure Sq (P:aG) (L:Lib):Prop where
 W3:Has P L 32 WC
 jV:Has P L 31 Cc
 oL:Has P L 33 Ln
 h94:Has P L 94 GQ
 h95:Has P L 95 Qg
 U6:Has P L 132 Kb
 h4:Has P L 4 c4
 h9:Has P L 9 c9
def s32 (h:Sq P L) {v:AV} {s:List (List Int)} (hv:dU v s) (hl:s.length<=1000000) (hr:∀i (hi:i<s.length),s[i].length<=1000000) {m:Int} (hm:0<=m) (gJ:m<=1000000):
  ae P L 32 [v,aa m] (aa (kD s.length (-m) m s)):=by
 have key:=eF (P:=P) (L:=L) (live:=[0,3,9,10,11]) (a:=Ob)
  (I:=fun k st=>∃(i:Nat) (rw:Bool),st=⟨[(0,v),(3,.ptr 0 0),(9,v),(10,aa s.length),(11,aa i)],[(0,.cells rw true true 1 [aa m])],1,0⟩/\i+k=s.length/\kD s.length (-m) m (s.drop i)=kD s.length (-m) m s)
  (Q:=fun ex st=>∃tm hp ct,st=⟨tm,hp,ct,0⟩/\((ex= .ret/\ah tm 4=aa (kD s.length (-m) m s))\/(ex= .exit 0/\kD s.length (-m) m s=0))) ?_
 ·unfold ae;rw [ay h.W3];simp only [go_sem,ya,yb,WC,hv.len];generalize hq:D P L (.loop [0,3,9,10,11] Ob) _=q;obtain ⟨ex,st,rfl,tm,hp,ct,rfl,h2⟩:=bD hq (key s.length) ⟨0,true,by simp only [go_sem,ya,yb,an,ak hv.pu,ao _ hv.pu]<;>rfl,by omega,rfl⟩
  rcases h2 with ⟨rfl,h2⟩ | ⟨rfl,h2⟩
  ·simp only [go_sem,h2]
  ·rw [h2];simp only [go_sem,an]
 ·rintro k st ⟨i,rw,rfl,hk,hf⟩;simp only [go_sem,ya,Ob];by_cases hi:i<s.length
  ·have bL:(i:Int)<s.length:=by omega
   rw [Y1 hi] at hf;obtain ⟨r,rest,cw,ep⟩:=hv.aZ hi;have hc:ae P L 95 [r,.fn (.f 94) [] [.aQ [aa m]]] (.bool (fQ (-m) m s[i])):=by
    rw [<-ank];exact s95 h.h95 h.U6 cw (hr i hi) rfl (fun x hp=>by simp only [go_sem]) (fun x=>s94 h.h94 hm gJ x) (fun n hp=>by simp only [go_sem])
   have iw:∀a b:Int,ae P L 33 [.aJ true 2 [.int .i64 a,.int .i64 b]] (aa (bn [a,b])):=fun a b=>zk h.oL (fy true [a,b]) (by simp)
   unfold ae at hc iw;by_cases h1:s[i].length=s.length
   ·have B4:(s[i].length:Int)=s.length:=by omega
    simp only [h1,yaS,ui,xh] at hf
    cases h2:fQ (-m) m s[i] with
    | false=>
     left
     simp only [h2,yF,xh] at hf;cases rw<;>simp only [go_sem,ya,yb,yt,yi,yh,bL,ep,hc,B4,h2,qh h.jV,iw,cw.len,cw.af,hv.len,yF,xh,bn,xm]
     all_goals
      refine ⟨_,k-1,rfl,by omega,i+1,false,?_,by omega,hf⟩;rw [wrap64 (by omega) (by omega)];simp only [go_sem,ya,yb,an,ak hv.pu,ao _ hv.pu];rfl
    | true=>
     right
     simp only [h2,xm] at hf;cases rw<;>simp only [go_sem,ya,yb,yt,yi,yh,bL,ep,hc,B4,h2,qh h.jV,iw,cw.len,cw.af,hv.len,yF,xh,bn,xm,vC]
     all_goals
      refine ⟨_,_,rfl,by simp,_,_,_,rfl,.inl ⟨rfl,?_⟩⟩;simp only [go_sem,hf]
   ·right
    have B4:¬(s[i].length:Int)=s.length:=by omega
    simp only [h1,yaS,tn,xm] at hf;cases h2:fQ (-m) m s[i]<;>cases rw<;>simp only [go_sem,ya,yb,yt,yi,yh,bL,ep,hc,B4,h2,qh h.jV,iw,cw.len,cw.af,hv.len,yF,xh,bn,xm,vC]
    all_goals
     refine ⟨_,_,rfl,by simp,_,_,_,rfl,.inl ⟨rfl,?_⟩⟩;simp only [go_sem,hf]
  ·right
   have bL:¬(i:Int)<s.length:=by omega
   simp only [go_sem,bL];refine ⟨_,_,rfl,by simp,_,_,_,rfl,.inr ⟨rfl,?_⟩⟩;rw [<-hf,yT (by omega)];rfl
end
end
section
open Go (IntKind)
section
variable {P:aG} {L:Lib}
def s2 (h:Has P L 2 c2) {v:AV} {s:List (List Int)} (hv:dU v s) {n:Nat}:ae P L 2 [v,aa n] (.bool (pD n s)):=by
 have key:=eF (P:=P) (L:=L) (live:=[0,5]) (a:=J5)
  (I:=fun k st=>∃i:Nat,st=⟨[(0,v),(5,aa i)],[],0,0⟩/\i+k=s.length/\s.length<=18/\qI (s.drop i)=qI s)
  (Q:=fun ex st=>∃tm ct,st=⟨tm,[],ct,0⟩/\((ex= .ret/\ah tm 4= .bool (qI s))\/(ex= .exit 0/\qI s=true))) ?_
 ·unfold ae;rw [ay h];unfold pD;by_cases h1:n<s.length
  ·by_cases h2:s.length<=16
   ·simp only [go_sem,ya,c2,hv.len,show (n:Int)<s.length by omega,show (s.length:Int)<=16 by omega];rw [yH (by omega)]
   ·by_cases h3:18<s.length
    ·simp only [go_sem,ya,c2,hv.len,show (n:Int)<s.length by omega,show ¬(s.length:Int)<=16 by omega,show (18:Int)<s.length by omega];rw [yH (by omega)]
    ·simp only [go_sem,ya,c2,hv.len,show (n:Int)<s.length by omega,show ¬(s.length:Int)<=16 by omega,show ¬(18:Int)<s.length by omega];rw [yA (by omega)];generalize hq:D P L (.loop [0,5] J5) _=q;obtain ⟨ex,st,rfl,tm,ct,rfl,h2⟩:=bD hq (key s.length) ⟨0,by simp only [go_sem,ya,an,ak hv.pu,ao _ hv.pu]<;>rfl,by omega,by omega,rfl⟩
     rcases h2 with ⟨rfl,h2⟩ | ⟨rfl,h2⟩
     ·simp only [go_sem,h2]
     ·rw [h2];simp only [go_sem]
  ·by_cases h3:18<s.length
   ·simp only [go_sem,ya,c2,hv.len,show ¬(n:Int)<s.length by omega,show (18:Int)<s.length by omega];rw [yH (by omega)]
   ·simp only [go_sem,ya,c2,hv.len,show ¬(n:Int)<s.length by omega,show ¬(18:Int)<s.length by omega];rw [yA (by omega)];generalize hq:D P L (.loop [0,5] J5) _=q;obtain ⟨ex,st,rfl,tm,ct,rfl,h2⟩:=bD hq (key s.length) ⟨0,by simp only [go_sem,ya,an,ak hv.pu,ao _ hv.pu]<;>rfl,by omega,by omega,rfl⟩
    rcases h2 with ⟨rfl,h2⟩ | ⟨rfl,h2⟩
    ·simp only [go_sem,h2]
    ·rw [h2];simp only [go_sem]
 ·rintro k st ⟨i,rfl,hk,hl,hf⟩;simp only [go_sem,ya,J5,hv.len];by_cases hi:i<s.length
  ·have bL:(i:Int)<s.length:=by omega
   rw [aio hi] at hf;obtain ⟨r,rest,cw,ep⟩:=hv.aZ hi;by_cases h1:18<s[i].length
   ·right
    rw [yH h1] at hf;simp only [go_sem,ya,bL,ep,cw.len,show (18:Int)<s[i].length by omega];refine ⟨_,_,rfl,by simp,_,_,rfl,.inl ⟨rfl,?_⟩⟩;simp only [go_sem,<-hf]
   ·left
    rw [yA h1] at hf;simp only [go_sem,ya,bL,ep,cw.len,show ¬(18:Int)<s[i].length by omega];refine ⟨_,k-1,rfl,by omega,i+1,?_,by omega,hl,hf⟩;rw [wrap64 (by omega) (by omega)];simp only [go_sem,ya,an,ak hv.pu,ao _ hv.pu]<;>rfl
  ·right
   simp only [go_sem,show ¬(i:Int)<s.length by omega];refine ⟨_,_,rfl,by simp,_,_,rfl,.inr ⟨rfl,?_⟩⟩;rw [<-hf,yT (by omega)];rfl
def s4 (h:Sq P L) {v:AV} {s:List (List Int)} (hv:dU v s) (hl:s.length<=1000000) (hr:∀i (hi:i<s.length),s[i].length<=1000000):ae P L 4 [v] (aa (oZ s)):=by
 have hc:=s32 h hv hl hr (m:=1000) (by decide) (by decide);have hf:∀a b c:Int,ae P L 33 [.aJ true 3 [.int .i64 a,.int .i64 b,.int .i64 c]] (aa (bn [a,b,c])):=fun a b c=>zk h.oL (fy true [a,b,c]) (by simp)
 unfold ae at hc hf ⊢;rw [ay h.h4];simp only [go_sem,ya,yb,yt,yi,yh,c4,hv.len,hv.af,hc,qh h.jV,hf];unfold oZ;by_cases h1:s.length=0
 ·simp [h1,bn]
 ·by_cases h2:16<s.length
  ·simp [h1,h2,bn,show (16:Int)<s.length by omega]
  ·simp only [h1,h2,bn,show ¬(16:Int)<s.length by omega,show ¬(s.length:Int)=0 by omega,yk,yF,xh,xm]
   split<;>simp_all
end
end
section
open Go (IntKind)
section
variable {P:aG} {L:Lib}
def s3 (h:Has P L 3 c3) (mX:Has P L 30 rC) {v:AV} {s:List (List Int)} (hv:dU v s):ae P L 3 [v] (aa (oZ s)):=by
 have inner:∀{i:Nat} (hi:i<s.length),s[i].length=s.length->s.length<=16->∀k st,(∃j:Nat,aT [0,3,4] st=⟨[(0,v),(3,aa i),(4,aa j)],[],0,0⟩/\j+k=s.length/\fQ (-1000) 1000 (s[i].drop j)=fQ (-1000) 1000 s[i])->
   ∃ex st',D P L (.loop [0,3,4] ON) st=some (ex,st')/\∃tm ct,st'=⟨tm,[],ct,0⟩/\((ex= .ret/\ah tm 2=aa 3/\fQ (-1000) 1000 s[i]=true)\/(ex= .exit 2/\ah tm 0=v/\ah tm 3=aa i/\fQ (-1000) 1000 s[i]=false)):=by
  intro i hi hr hl;intro dq sq;generalize bw:aT [0,3,4] sq=s0;revert bw s0 sq dq;apply dn;rintro k st ⟨j,rfl,hk,hf⟩;simp only [go_sem,ya,ON,hv.len];obtain ⟨r,rest,cw,ep⟩:=hv.aZ hi;by_cases hj:j<s.length
  ·have GF:(j:Int)<s.length:=by omega
   have W4:j<s[i].length:=by omega
   rw [akB W4] at hf;by_cases h1:s[i][j]< -1000\/1000<s[i][j]
   ·right
    rw [yH h1] at hf;simp only [go_sem,ya,GF,ep,cw.aZ W4,WZ mX,h1,xm,vC];refine ⟨_,_,rfl,by simp,_,_,rfl,.inl ⟨rfl,?_,hf.symm⟩⟩;simp only [go_sem]
   ·left
    rw [yA h1] at hf;simp only [go_sem,ya,GF,ep,cw.aZ W4,WZ mX,h1,xh];refine ⟨_,k-1,rfl,by omega,j+1,?_,by omega,hf⟩;rw [wrap64 (by omega) (by omega)];simp only [go_sem,ya,an,ak hv.pu,ao _ hv.pu]<;>rfl
  ·right
   simp only [go_sem,show ¬(j:Int)<s.length by omega];refine ⟨_,_,rfl,by simp,_,_,rfl,.inr ⟨rfl,?_,?_,?_⟩⟩
   ·simp only [go_sem,ya]
   ·simp only [go_sem,ya]
   ·rw [<-hf,yT (by omega)];rfl
 have key:=eF (P:=P) (L:=L) (live:=[0,3]) (a:=OO)
  (I:=fun k st=>∃i:Nat,st=⟨[(0,v),(3,aa i)],[],0,0⟩/\i+k=s.length/\s.length<=16/\kD s.length (-1000) 1000 (s.drop i)=kD s.length (-1000) 1000 s)
  (Q:=fun ex st=>∃tm ct,st=⟨tm,[],ct,0⟩/\((ex= .ret/\ah tm 2=aa (kD s.length (-1000) 1000 s))\/(ex= .exit 0/\kD s.length (-1000) 1000 s=0))) ?_
 ·unfold ae;rw [ay h];unfold oZ;by_cases h1:s.length=0
  ·simp only [go_sem,ya,c3,hv.len,show (s.length:Int)=0 by omega];rw [yH h1]
  ·rw [yA h1];by_cases h2:16<s.length
   ·simp only [go_sem,ya,c3,hv.len,show ¬(s.length:Int)=0 by omega,show (16:Int)<s.length by omega];rw [yH h2]
   ·simp only [go_sem,ya,c3,hv.len,show ¬(s.length:Int)=0 by omega,show ¬(16:Int)<s.length by omega];rw [yA h2];generalize hq:D P L (.loop [0,3] OO) _=q;obtain ⟨ex,st,rfl,tm,ct,rfl,h2⟩:=bD hq (key s.length) ⟨0,by simp only [go_sem,ya,an,ak hv.pu,ao _ hv.pu]<;>rfl,by omega,by omega,rfl⟩
    rcases h2 with ⟨rfl,h2⟩ | ⟨rfl,h2⟩
    ·simp only [go_sem,h2]
    ·rw [h2];simp only [go_sem]
 ·rintro k st ⟨i,rfl,hk,hl,hf⟩;simp only [go_sem,ya,OO,hv.len];by_cases hi:i<s.length
  ·have bL:(i:Int)<s.length:=by omega
   rw [Y1 hi] at hf;obtain ⟨r,rest,cw,ep⟩:=hv.aZ hi;by_cases h1:s[i].length=s.length
   ·simp only [h1,yaS,ui,xh] at hf;simp only [go_sem,ya,bL,ep,cw.len,hv.len,show (s[i].length:Int)=s.length by omega];generalize hq:D P L (.loop [0,3,4] ON) _=q;obtain ⟨ex,st,rfl,tm,ct,rfl,h2⟩:=bD hq (inner hi h1 hl s.length) ⟨0,by simp only [go_sem,ya,an,ak hv.pu,ao _ hv.pu]<;>rfl,by omega,rfl⟩
    rcases h2 with ⟨rfl,h2,h3⟩ | ⟨rfl,h2,h3,h4⟩
    ·right
     rw [yH h3] at hf;exact ⟨_,_,rfl,by simp,_,_,rfl,.inl ⟨rfl,by rw [h2,<-hf]⟩⟩
    ·left
     rw [yA (by simp [h4])] at hf;simp only [go_sem,ya,an,h2,h3,ak hv.pu,ao _ hv.pu];refine ⟨_,k-1,rfl,by omega,i+1,?_,by omega,hl,hf⟩;rw [wrap64 (by omega) (by omega)];simp only [go_sem,ya,an,ak hv.pu,ao _ hv.pu]<;>rfl
   ·right
    simp only [h1,yaS,tn,xm] at hf;simp only [go_sem,ya,bL,ep,cw.len,hv.len,show ¬(s[i].length:Int)=s.length by omega];refine ⟨_,_,rfl,by simp,_,_,rfl,.inl ⟨rfl,?_⟩⟩;simp only [go_sem,<-hf]
  ·right
   simp only [go_sem,show ¬(i:Int)<s.length by omega];refine ⟨_,_,rfl,by simp,_,_,rfl,.inr ⟨rfl,?_⟩⟩;rw [<-hf,yT (by omega)];rfl
end
end
section
open Go (IntKind)
section
variable {P:aG} {L:Lib}
def kN {k:yY} {n:Int} (h:0<=n):dE (.int k n)=some n.toNat:=by
 cases n with
 | ofNat n=>rfl
 | negSucc n=>exact absurd h (by simp)
end
end
section
open Go (IntKind)
section
variable {P:aG} {L:Lib}
def aV (k id o:Nat):Dr k (.ptr id o)=some (.ptr id (o+k)):=rfl
def bX {α:Type} (a:α) (l:List α):xg 1 (a::l)=l:=rfl
def auj {α:Type} (a b:α) (l:List α):xg 2 (a::b::l)=l:=rfl
def aeU {α:Type} (a b c:α) (l:List α):xg 3 (a::b::c::l)=l:=rfl
end
end
section
open Go (IntKind)
section
variable {P:aG} {L:Lib}
abbrev Nm (n:Int):AV:= .agg [aa n,.ab]
def sj (hp:Hp) (ct id:Nat) (a:Int) (x y:AV):fE hp ct id 0 2 [.int .i64 a,.ab] (some (.cells true true true 2 [x,y]))=some (.au [],bg hp id (.cells true true true 2 [.int .i64 a,.ab]),ct):=rfl
def dZ (b:Bool):KA false (some b)=some (.bool b):=by cases b<;>rfl
def Dj (f:cD) (tm:Env) (hp:Hp) (ct:Nat) (x y:X):br P L f tm hp ct (.mn [x,y])=rd hp ct (min2 (aA tm x) (aA tm y)):=by
 simp only [br,rd,bE,dC,Bo]
 grind
def Jz (f:cD) (tm:Env) (hp:Hp) (ct:Nat) (x y:X):br P L f tm hp ct (.mx [x,y])=rd hp ct (max2 (aA tm x) (aA tm y)):=by
 simp only [br,rd,bE,dC,Bo]
 grind
def CP (k k':yY) (x y:Int):min2 (.int k x) (.int k' y)=some (.int k (if y<x then y else x)):=rfl
def IT (k k':yY) (x y:Int):max2 (.int k x) (.int k' y)=some (.int k (if y>x then y else x)):=rfl
def cB (n:Int):Int:=if n<0 then -1 else if n=0 then 0 else 1
def ar6 (n:Int):(if (if n<1 then n else 1)> -1 then (if n<1 then n else 1) else -1)=cB n:=by
 unfold cB
 grind
def n117 (h:Has P L 117 OU) (n:Int):ae P L 117 [aa n] (Nm n):=by
 unfold ae;rw [ay h];simp only [go_sem,ya,yb,yi,OU,aK,yd,sj];rfl
def pJ (hp:Hp) (p q:Bool):jz .b (.bool p) (.bool q)=some (p==q):=rfl
end
end
section
open Go (IntKind)
section
variable {P:aG} {L:Lib}
def js {n:Nat} {sp:List AV->Option AV} (h:L.pure n=some sp) {f:cD} (aq:List AV):bQ P L f n aq=sp aq:=by simp only [bQ,h]
abbrev U64 (n:Int):AV:= .int .u64 n
def auk {n:Int} (h1:0<=n) (h2:n<18446744073709551616):IntKind.wrap .u64 n=n:=by
 simp only [IntKind.wrap,IntKind.signed,IntKind.bits]
 grind
def adm (n:Int):pK (.toInt .u64) (aa n)=some (U64 (IntKind.wrap .u64 n)):=rfl
def NW (n:Int):pK (.toInt .i64) (U64 n)=some (aa (IntKind.wrap .i64 n)):=rfl
def JA (b:Bool):KA true (some b)=some (.bool (!b)):=by cases b<;>rfl
def cr (a b:AV) (r:List AV):fD 2 true (a::b::r)=some (.agg [a,b]):=rfl
def iR (a b c d:AV) (r:List AV):fD 4 true (a::b::c::d::r)=some (.agg [a,b,c,d]):=rfl
def alh {a b:Int} (hb:0<b):(a.tmod b<0->a/b=a.tdiv b-1/\a%b=a.tmod b+b)/\(¬a.tmod b<0->a/b=a.tdiv b/\a%b=a.tmod b):=by
 have h1:=Int.mul_tdiv_add_tmod a b;have h2:a.tmod b<b:=Int.tmod_lt_of_pos a hb;have h3: -b<a.tmod b:=Int.lt_tmod_of_pos a hb;refine ⟨fun h=>(uN hb).2 ⟨?_,?_,?_⟩,fun h=>(uN hb).2 ⟨?_,?_,?_⟩⟩
 ·grind
 ·omega
 ·omega
 ·omega
 ·omega
 ·omega
def anl (a b:Nat) (hb:b≠0):wD b (a%b)=wD a b:=by
 rw [uC b,<-ybC,uC]
end
end
section
def dd (a b:Int):Int:=a/(wN a b:Nat)
def dj (a b:Int):Int:=b/(wN a b:Nat)
def I5 {a b:Int} (hb:0<b):(0:Int)<(wN a b:Nat):=by
 have:=Int.gcd_pos_of_ne_zero_right a (show b≠0 by omega)
 omega
def adn (a b:Int):a=(wN a b:Nat)*dd a b:=(tR (uS a b)).symm
def ado (a b:Int):b=(wN a b:Nat)*dj a b:=(tR (uI a b)).symm
def IU {a b:Int} (hb:0<b):0<dj a b:=by
 have h1:=I5 (a:=a) hb;have h2:=ado a b;rcases Int.lt_trichotomy (dj a b) 0 with h | h | h
 ·have:=Int.mul_neg_of_pos_of_neg h1 h;omega
 ·grind
 ·exact h
def aaF (a b:Int):(dd a b).natAbs<=a.natAbs:=by
 unfold dd;rw [vT (uS a b)];exact vh _ _
def aaG (a b:Int):(dj a b).natAbs<=b.natAbs:=by
 unfold dj;rw [vT (uI a b)];exact vh _ _
def pN (a b:Int):List Nat:=if dj a b=1 then aY (dd a b) else aY (dd a b)++[47]++aY (dj a b)
end
section
def aeV {a b:Nat} (h:¬a<b):yM a b=false:=by
 cases hb:yM a b with
 | false=>rfl
 | true=>exact absurd (yu hb) (by omega)
def SR:∀(f n:Nat) (acc:List Nat),n<f->ni f n acc=ni f n []++acc
 | 0,_,_,h=>by omega
 | f+1,n,acc,h=>by
  simp only [ni];by_cases h1:n<10
  ·rw [show yM n 10=true from yx h1];rfl
  ·rw [show yM n 10=false from aeV (by omega)];rw [SR f (n/10) _ (by omega),SR f (n/10) [48+n%10] (by omega)]
   simp
def R7 {f n:Nat} (h:n<10):ni (f+1) n []=[48+n]:=by
 simp only [ni];rw [show yM n 10=true from yx h];rfl
def SS {f n:Nat} (h:¬n<10) (hf:n<=f):ni (f+1) n []=ni f (n/10) []++[48+n%10]:=by
 rw [<-SR f (n/10) _ (by omega)];simp only [ni];rw [show yM n 10=false from aeV (by omega)];rfl
def anm:∀(n f:Nat),n<f->ni f n []=aB n:=by
 intro n
 induction n using vV with
 | _ n ih=>
  intro f hf;obtain ⟨g,rfl⟩:∃g,f=g+1:=⟨f-1,by omega⟩;by_cases h:n<10
  ·rw [R7 h];unfold aB;rw [R7 h]
  ·rw [SS h (by omega),ih (n/10) (by omega) g (by omega)];unfold aB;rw [SS h (yr n),ih (n/10) (by omega) n (by omega)];rfl
def oY {n:Nat} (h:n<10):aB n=[48+n]:=R7 h
def qM {n:Nat} (h:¬n<10):aB n=aB (n/10)++[48+n%10]:=by
 rw [show aB n=ni (n+1) n [] from rfl,SS h (yr n),anm (n/10) n (by omega)]
def qO:∀{k n:Nat},n<10^(k+1)->(aB n).length<=k+1
 | 0,n,h=>by rw [oY (by simpa using h)];simp
 | k+1,n,h=>by
  by_cases h1:n<10
  ·rw [oY h1];simp
  ·rw [qM h1,yW]
   have:n/10<10^(k+1):=by
    grind
   have:=qO this
   grind
def MO {n:Nat} (h:n<18446744073709551616):(aB n).length<=20:=qO (k:=19) (by omega)
def kP (n:Nat):aY (n:Int)=aB n:=rfl
def nh {n:Int} (h:n<0):aY n=45::aB n.natAbs:=by
 cases n with
 | ofNat n=>exact absurd h (by simp)
 | negSucc n=>rfl
def bR:List Nat->Nat
 | []=>0
 | b::r=>if b=47 then 0 else bR r+1
def ai6 {s:List Nat} {i:Nat} (h:i<s.length):bR (s.drop i)=if s[i]=47 then 0 else bR (s.drop (i+1))+1:=by
 rw [yN h];rfl
def II:∀s:List Nat,bR s<=s.length
 | []=>yr _
 | b::r=>by
  unfold bR
  have:=II r
  grind
def dl:List Nat->Bool
 | []=>true
 | b::r=>yE 48 b&&yE b 57&&dl r
def Mz:∀(a b:List Nat),dl (a++b)=(dl a&&dl b)
 | [],b=>by simp [dl]
 | x::a,b=>by simp [dl,Mz a b,Bool.and_assoc]
def IJ (n:Nat):dl (aB n)=true:=by
 induction n using vV with
 | _ n ih=>
  by_cases h:n<10
  ·rw [oY h];simp [dl];omega
  ·rw [qM h,Mz,ih (n/10) (by omega)];simp [dl];omega
def MA:∀{s:List Nat} (r:List Nat),dl s=true->bR (s++r)=s.length+bR r
 | [],r,_=>by simp
 | b::s,r,h=>by
  simp only [dl,ye] at h;have h1:=yu h.1.1;simp only [xu,bR,yC];rw [yA (by omega),MA r h.2];omega
def MB:∀(l:List Nat) (a d:Nat),d<10->cQ (l++[48+d]) a=(cQ l a).map (fun v=>10*v+d)
 | [],a,d,h=>by
  simp only [List.nil_append,cQ];rw [show yE 48 (48+d)=true from yx (by omega),show yE (48+d) 57=true from yx (by omega)]
  simp
 | b::l,a,d,h=>by
  simp only [xu,cQ]
  cases (yE 48 b&&yE b 57) with
  | true=>exact MB l _ d h
  | false=>rfl
def CM (n:Nat):cQ (aB n) 0=some n:=by
 induction n using vV with
 | _ n ih=>
  by_cases h:n<10
  ·rw [oY h]
   have:=MB [] 0 n h
   simpa [cQ] using this
  ·rw [qM h,MB _ _ _ (by omega),ih (n/10) (by omega)]
   simp;omega
def ali {s:List Nat} {i a v:Nat} (h:i<s.length) (hv:cQ (s.drop i) a=some v):48<=s[i]/\s[i]<=57/\cQ (s.drop (i+1)) (10*a+(s[i]-48))=some v:=by
 rw [yN h] at hv;simp only [cQ] at hv
 cases hb:(yE 48 s[i]&&yE s[i] 57) with
 | false=>rw [hb] at hv;cases hv
 | true=>
  simp_all
def iU:Nat->Nat->List Nat
 | 0,_=>[]
 | k+1,n=>iU k (n/10)++[48+n%10]
def Sy:∀k n,(iU k n).length=k
 | 0,_=>rfl
 | k+1,n=>by simp [iU,Sy k]
def Nj:∀(k m r:Nat),0<m->r<10^k->aB (m*10^k+r)=aB m++iU k r
 | 0,m,r,_,h=>by simp at h;subst h;simp [iU]
 | k+1,m,r,hm,h=>by
  have h1:m*10^(k+1)+r=(m*10^k)*10+r:=by grind
  have hp:0<m*10^k:=Nat.mul_pos hm (Nat.pow_pos (by decide));have e1:(m*10^(k+1)+r)/10=m*10^k+r/10:=by omega
  have e2:(m*10^(k+1)+r)%10=r%10:=by omega
  rw [qM (by omega),e1,e2,Nj k m (r/10) hm (by rw [xk] at h;omega)];simp [iU]
def aaH:∀(k r a:Nat),r<10^k->cQ (iU k r) a=some (a*10^k+r)
 | 0,r,a,h=>by simp at h;subst h;simp [iU,cQ]
 | k+1,r,a,h=>by
  rw [iU,MB _ _ _ (xz _ (by decide)),aaH k (r/10) a (by omega)];simp only [Option.map_some,yc,xk]
  grind
def ann {m:Nat} (h:1000000000<=m):aB m=aB (m/1000000000)++iU 9 (m%1000000000):=by
 have:=Nj 9 (m/1000000000) (m%1000000000) (by omega) (by omega)
 grind
end
section
open Go (IntKind)
def iJ (s:List Nat) (l h:Option Nat):Option AV:=
 match l,h with
 | some l,some h=>bif yE l h&&yE h s.length then some (.str ((s.take h).drop l)) else none
 | _,_=>none
def eR (hp:Hp) (s:List Nat) (tm:Env) (lo hi:Option X):fh hp .str (.str s) tm lo hi=iJ s (cP tm 0 lo) (cP tm s.length hi):=by
 unfold iJ;simp only [fh]
 grind
def fb (tm:Env) (d:Nat):cP tm d none=some d:=rfl
def dG (tm:Env) (d:Nat) (x:X):cP tm d (some x)=dE (aA tm x):=rfl
def lL {s:List Nat} {l h:Nat} (h1:l<=h) (h2:h<=s.length):iJ s (some l) (some h)=some (.str ((s.take h).drop l)):=by
 simp [iJ,yx h1,yx h2]
def gN {a b:List Nat} (h:a.length+b.length<=9223372036854775807):binOp .add (.str a) (.str b)=some (.str (a++b)):=by
 show JD .add a b=_
 simp only [JD,yx h,yz]
def apK (k:yY) (n:Int):pK (.toInt .i64) (.int k n)=some (aa (IntKind.wrap .i64 n)):=rfl
def j9 (a b:List Nat):binOp .eql (.str a) (.str b)=some (.bool (cI a b)):=rfl
def qS {s:List Nat} {i:Nat} (h:i<s.length):nt i (.str s)=some (.int .u8 (s[i]:Nat)):=by
 simp only [nt,wo h]
def Y5 {r:Nat} (h:r<10):iJ [48,49,50,51,52,53,54,55,56,57] (some r) (some (r+1))=some (.str [48+r]):=by
 have:r=0\/r=1\/r=2\/r=3\/r=4\/r=5\/r=6\/r=7\/r=8\/r=9:=by omega
 rcases this with rfl | rfl | rfl | rfl | rfl | rfl | rfl | rfl | rfl | rfl<;>rfl
section
variable {P:aG} {L:Lib}
def U7 (h:Has P L 292 Ac) {n:Nat} (hn:n<9223372036854775808):ae P L 292 [aa n,aa 1] (.str (aB n)):=by
 have key:=eF (P:=P) (L:=L) (live:=[0,1,5]) (a:=n5)
  (I:=fun k st=>∃(m:Nat) (s:List Nat),st=⟨[(0,aa m),(1,aa 1),(5,.str s)],[],0,0⟩/\m<=n/\m+(1-s.length)=k/\s.length<=20/\((s=[]/\m=n)\/(0<s.length/\(m=0->s=aB n)/\(0<m->aB n=aB m++s))))
  (Q:=fun ex st=>∃tm ct,st=⟨tm,[],ct,0⟩/\ex= .exit 0/\ah tm 5= .str (aB n)) ?_
 ·unfold ae;rw [ay h];simp only [go_sem,Ac];generalize hq:D P L (.loop [0,1,5] n5) _=q;obtain ⟨ex,st,rfl,tm,ct,rfl,rfl,h2⟩:=bD hq (key (n+1)) ⟨n,[],by simp only [go_sem,ya,an]<;>rfl,by omega,rfl,by simp,.inl ⟨rfl,rfl⟩⟩
  simp only [go_sem,an,h2]
 ·rintro k st ⟨m,s,rfl,hm,hk,hl,hs⟩;by_cases oM:0<m\/s.length<1
  ·left
   have hc:((decide ((0:Int)<m))=true)\/((decide ((0:Int)<m))=false/\((s.length:Nat):Int)<1):=by
    by_cases h0:0<m
    ·exact .inl (xo (by omega))
    ·exact .inr ⟨yZ (by omega),by omega⟩
   have hr:((m:Int)).tmod 10=((m%10:Nat):Int):=by rw [xE (by omega)];rfl
   have hq:((m:Int)).tdiv 10=((m/10:Nat):Int):=by rw [Int.tdiv_eq_ediv_of_nonneg (by omega)];rfl
   have hd:=Y5 (r:=m%10) (by omega);have fin:∃s' k',D P L n5 ⟨[(0,aa m),(1,aa 1),(5,.str s)],[],0,0⟩=some (.normal,s')/\k'<k/\aT [0,1,5] s'=⟨[(0,aa (m/10:Nat)),(1,aa 1),(5,.str ([48+m%10]++s))],[],0,0⟩/\m/10+(1-([48+m%10]++s).length)=k':=by
    rcases hc with hc | ⟨hc,zd⟩
    ·have hc:(0:Int)<m:=of_decide_eq_true hc
     simp only [go_sem,ya,yb,n5,hc,fM _ _ _ (show (10:Int)≠0 by decide),fw _ _ _ (show (10:Int)≠0 by decide),hr,hq,wrapN (n:=m%10+1) (by omega),wrap64 (n:=((m/10:Nat):Int)) (by omega) (by omega),eR,dG,show ((m%10:Nat):Int)+1=((m%10+1:Nat):Int) from rfl,hd,gN (a:=[48+m%10]) (b:=s) (by simp;omega)];refine ⟨_,_,rfl,?_,by simp only [go_sem,ya,an],rfl⟩
     simp;omega
    ·have hc:¬(0:Int)<m:=of_decide_eq_false hc
     simp only [go_sem,ya,yb,n5,hc,zd,fM _ _ _ (show (10:Int)≠0 by decide),fw _ _ _ (show (10:Int)≠0 by decide),hr,hq,wrapN (n:=m%10+1) (by omega),wrap64 (n:=((m/10:Nat):Int)) (by omega) (by omega),eR,dG,show ((m%10:Nat):Int)+1=((m%10+1:Nat):Int) from rfl,hd,gN (a:=[48+m%10]) (b:=s) (by simp;omega)];refine ⟨_,_,rfl,?_,by simp only [go_sem,ya,an],rfl⟩
     simp;omega
   obtain ⟨s',k',f1,f2,f3,f4⟩:=fin;refine ⟨s',k',f1,f2,m/10,[48+m%10]++s,f3,by omega,f4,?_,.inr ⟨by simp,fun h0=>?_,fun h0=>?_⟩⟩
   ·have aBk:=MO (n:=n) (by omega);rcases hs with ⟨rfl,rfl⟩ | ⟨h1,h2,h3⟩
    ·simp
    ·by_cases h0:0<m
     ·have e:=congrArg List.length (h3 h0);have e2:0<(aB m).length:=by
       by_cases h9:m<10
       ·rw [oY h9];simp
       ·rw [qM h9];simp
      simp only [yW] at e
      simp;omega
     ·omega
   ·have h9:m<10:=by omega
    rcases hs with ⟨rfl,rfl⟩ | ⟨h1,h2,h3⟩
    ·rw [oY h9,yS h9];rfl
    ·have:0<m:=by omega
     rw [h3 this,oY h9,yS h9]
   ·have h9:¬m<10:=by omega
    rcases hs with ⟨rfl,rfl⟩ | ⟨h1,h2,h3⟩
    ·rw [qM h9];simp
    ·rw [h3 (by omega),qM h9];simp
  ·right
   simp only [go_sem,ya,n5,show ¬(0:Int)<m by omega,show ¬((s.length:Nat):Int)<1 by omega];refine ⟨_,_,rfl,by simp,_,_,rfl,rfl,?_⟩;simp only [go_sem,ya];rcases hs with ⟨rfl,rfl⟩ | ⟨h1,h2,h3⟩
   ·simp at oM
   ·rw [h2 (by omega)]
def avF (h:Has P L 291 Kr) {a b:Nat} (ha:a<9223372036854775808) (hb:b<9223372036854775808):ae P L 291 [aa a,aa b] (aa (wD a b)):=by
 have key:=eF (P:=P) (L:=L) (live:=[0,1]) (a:=Js)
  (I:=fun k st=>∃x y:Nat,st=⟨[(0,aa x),(1,aa y)],[],0,0⟩/\y=k/\wD x y=wD a b)
  (Q:=fun ex st=>∃tm ct,st=⟨tm,[],ct,0⟩/\ex= .exit 0/\ah tm 0=aa (wD a b)) ?_
 ·unfold ae;rw [ay h];simp only [go_sem,Kr];generalize hq:D P L (.loop [0,1] Js) _=q;obtain ⟨ex,st,rfl,tm,ct,rfl,rfl,h2⟩:=bD hq (key b) ⟨a,b,by simp only [go_sem,ya,an]<;>rfl,rfl,rfl⟩
  simp only [go_sem,an,h2]
 ·rintro k st ⟨x,y,rfl,rfl,hg⟩;by_cases hy:y=0
  ·right
   subst hy;simp only [go_sem,ya,Js,show ¬(0:Int)<((0:Nat):Int) by omega];refine ⟨_,_,rfl,by simp,_,_,rfl,rfl,?_⟩;simp only [go_sem,ya];rw [<-hg,Nat.gcd_zero_right]
  ·left
   have hr:((x:Int)).tmod y=((x%y:Nat):Int):=by rw [xE (by omega)];rfl
   simp only [go_sem,ya,Js,show (0:Int)<y by omega,fM _ _ _ (show (y:Int)≠0 by omega),hr];refine ⟨_,x%y,rfl,xz _ (by omega),y,x%y,by simp only [go_sem,ya,an],rfl,?_⟩;rw [<-hg,uC y,<-ybC,uC]
end
end
section
open Go (IntKind)
section
variable {P:aG} {L:Lib}
def DT (h:Has P L 272 Kn) {s:List Nat} (hl:s.length<=1000000000000):ae P L 272 [.str s] (aa (bR s)):=by
 have key:=eF (P:=P) (L:=L) (live:=[0,3]) (a:=Fu)
  (I:=fun k st=>∃i:Nat,st=⟨[(0,.str s),(3,aa i)],[],0,0⟩/\i+k=s.length/\i+bR (s.drop i)=bR s)
  (Q:=fun ex st=>∃tm ct,st=⟨tm,[],ct,0⟩/\((ex= .ret/\ah tm 2=aa (bR s))\/(ex= .exit 0/\ah tm 0= .str s/\bR s=s.length))) ?_
 ·unfold ae;rw [ay h];simp only [go_sem,Kn];generalize hq:D P L (.loop [0,3] Fu) _=q;obtain ⟨ex,st,rfl,tm,ct,rfl,h2⟩:=bD hq (key s.length) ⟨0,by simp only [go_sem,ya,an]<;>rfl,by omega,by simp⟩
  rcases h2 with ⟨rfl,h2⟩ | ⟨rfl,h2,h3⟩
  ·simp only [go_sem,h2]
  ·simp only [go_sem,an,h2,h3]
 ·rintro k st ⟨i,rfl,hk,hs⟩;by_cases hi:i<s.length
  ·rw [ai6 hi] at hs;by_cases h7:s[i]=47
   ·right
    rw [yH h7] at hs;simp only [go_sem,ya,Fu,show (i:Int)<s.length by omega,qS hi,show ((s[i]:Nat):Int)=47 by omega];refine ⟨_,_,rfl,by simp,_,_,rfl,.inl ⟨rfl,?_⟩⟩;rw [<-hs];rfl
   ·left
    rw [yA h7] at hs;simp only [go_sem,ya,Fu,show (i:Int)<s.length by omega,qS hi,show ¬((s[i]:Nat):Int)=47 by omega];refine ⟨_,k-1,rfl,by omega,i+1,?_,by omega,by omega⟩;rw [wrap64 (by omega) (by omega)];simp only [go_sem,ya,an]<;>rfl
  ·right
   simp only [go_sem,ya,Fu,show ¬(i:Int)<s.length by omega];refine ⟨_,_,rfl,by simp,_,_,rfl,.inr ⟨rfl,by simp only [go_sem,ya],?_⟩⟩;rw [yT (by omega)] at hs;simp only [bR] at hs;omega
def KC (h:Has P L 290 Gg) {s:List Nat} {v:Nat} (hl:s.length<=18) (hv:cQ s 0=some v):ae P L 290 [.str s] (aa v):=by
 have key:=eF (P:=P) (L:=L) (live:=[0,3,4]) (a:=Jr)
  (I:=fun k st=>∃i a:Nat,st=⟨[(0,.str s),(3,aa a),(4,aa i)],[],0,0⟩/\i+k=s.length/\a<10^i/\cQ (s.drop i) a=some v)
  (Q:=fun ex st=>∃tm ct,st=⟨tm,[],ct,0⟩/\ex= .exit 0/\ah tm 3=aa v) ?_
 ·unfold ae;rw [ay h];simp only [go_sem,Gg];generalize hq:D P L (.loop [0,3,4] Jr) _=q;obtain ⟨ex,st,rfl,tm,ct,rfl,rfl,h2⟩:=bD hq (key s.length) ⟨0,0,by simp only [go_sem,ya,an]<;>rfl,by omega,by simp,hv⟩
  simp only [go_sem,an,h2]
 ·rintro k st ⟨i,a,rfl,hk,ha,hs⟩;by_cases hi:i<s.length
  ·left
   obtain ⟨h1,h2,h3⟩:=ali hi hs;have hp:10^i<=10^17:=xD (by decide) (by omega);have hb:IntKind.wrap .i64 ((s[i]:Nat):Int)=((s[i]:Nat):Int):=wrap64 (by omega) (by omega)
   simp only [go_sem,ya,Jr,show (i:Int)<s.length by omega,qS hi,apK,hb,wrap64 (n:=10*(a:Int)) (by omega) (by omega),wrap64 (n:=10*(a:Int)+(s[i]:Nat)) (by omega) (by omega),wrap64 (n:=10*(a:Int)+(s[i]:Nat)-48) (by omega) (by omega)];refine ⟨_,k-1,rfl,by omega,i+1,10*a+(s[i]-48),?_,by omega,?_,h3⟩
   ·rw [wrap64 (by omega) (by omega),show 10*(a:Int)+(s[i]:Nat)-48=((10*a+(s[i]-48):Nat):Int) by omega];simp only [go_sem,ya,an]<;>rfl
   ·rw [xk];omega
  ·right
   simp only [go_sem,ya,Jr,show ¬(i:Int)<s.length by omega];refine ⟨_,_,rfl,by simp,_,_,rfl,rfl,?_⟩;rw [yT (by omega)] at hs;simp only [cQ,yc] at hs;subst hs;simp only [go_sem,ya]
def NH (a:Int):(if 0-a>a then 0-a else a)=(a.natAbs:Int):=by omega
def Nk (a b:Int):a.tdiv (wN a b:Nat)=dd a b:=tx (uS a b)
def Nl (a b:Int):b.tdiv (wN a b:Nat)=dj a b:=tx (uI a b)
def nW (n:Int):(if n<0 then [45] else [])++aB n.natAbs=aY n:=by
 split
 ·rename_i h;rw [nh h];rfl
 ·rename_i h;obtain ⟨m,rfl⟩:∃m:Nat,n=m:=⟨n.toNat,by omega⟩;rfl
def ano {n:Int} (h:n.natAbs<18446744073709551616):(aY n).length<=21:=by
 rw [<-nW]
 have:=MO h
 grind
def apL {a b:Int} (hb:0<b):pN a b=(if 1<dj a b then (aY (dd a b)++[47])++aB (dj a b).natAbs else aY (dd a b)):=by
 have h:=IU (a:=a) hb;unfold pN;by_cases h1:dj a b=1
 ·grind
 ·rw [yA h1,yH (by omega)];obtain ⟨m,hm⟩:∃m:Nat,dj a b=m:=⟨(dj a b).toNat,by omega⟩;rw [hm];rfl
def avG (h:Has P L 277 DL) (U8:Has P L 291 Kr) (ol:Has P L 292 Ac) {a b:Int} (ha: -4000000000000000000<=a/\a<=4000000000000000000) (hb:0<b/\b<=4000000000000000000):
  ae P L 277 [aa a,aa b] (.str (pN a b)):=by
 have hn:=aaF a b;have hd:=aaG a b;have hp:=IU (a:=a) hb.1;have e1:=avF U8 (a:=a.natAbs) (b:=b.natAbs) (by omega) (by omega);have e2:=U7 ol (n:=(dd a b).natAbs) (by omega);have e3:=U7 ol (n:=(dj a b).natAbs) (by omega);have hg:=I5 (a:=a) hb.1;rw [show ((b.natAbs:Nat):Int)=b by omega,show wD a.natAbs b.natAbs=wN a b from rfl] at e1;rw [show (((dj a b).natAbs:Nat):Int)=dj a b by omega] at e3;have nM:=ano (n:=dd a b) (by omega);have sX:=MO (n:=(dd a b).natAbs) (by omega);have hl3:=MO (n:=(dj a b).natAbs) (by omega);have hT:=apL (a:=a) hb.1;have hS:=nW (dd a b);unfold ae at e1 e2 e3 ⊢;rw [ay h];by_cases h0:dd a b<0
 ·rw [yH h0] at hS;by_cases h1:1<dj a b
  ·rw [yH h1] at hT
   simp only [go_sem,ya,DL,show ¬a< -4000000000000000000 by omega,show ¬4000000000000000000<a by omega,show ¬b< -4000000000000000000 by omega,show ¬4000000000000000000<b by omega,show ¬b<0 by omega,wrap64 (n:=0-a) (by omega) (by omega),Jz,IT,NH,e1,fw _ _ _ (show ((wN a b:Nat):Int)≠0 by omega),Nk,Nl,wrap64 (n:=dd a b) (by omega) (by omega),wrap64 (n:=dj a b) (by omega) (by omega),h0,wrap64 (n:=0-dd a b) (by omega) (by omega),e2,gN (a:=[45]) (b:=aB (dd a b).natAbs) (by simp;omega),hS,h1,gN (a:=aY (dd a b)) (b:=[47]) (by simp;omega),e3,gN (a:=aY (dd a b)++[47]) (b:=aB (dj a b).natAbs) (by simp;omega),hT]
  ·rw [yA h1] at hT
   simp only [go_sem,ya,DL,show ¬a< -4000000000000000000 by omega,show ¬4000000000000000000<a by omega,show ¬b< -4000000000000000000 by omega,show ¬4000000000000000000<b by omega,show ¬b<0 by omega,wrap64 (n:=0-a) (by omega) (by omega),Jz,IT,NH,e1,fw _ _ _ (show ((wN a b:Nat):Int)≠0 by omega),Nk,Nl,wrap64 (n:=dd a b) (by omega) (by omega),wrap64 (n:=dj a b) (by omega) (by omega),h0,wrap64 (n:=0-dd a b) (by omega) (by omega),e2,gN (a:=[45]) (b:=aB (dd a b).natAbs) (by simp;omega),hS,h1,hT]
 ·rw [yA h0] at hS;by_cases h1:1<dj a b
  ·rw [yH h1] at hT
   simp only [go_sem,ya,DL,show ¬a< -4000000000000000000 by omega,show ¬4000000000000000000<a by omega,show ¬b< -4000000000000000000 by omega,show ¬4000000000000000000<b by omega,show ¬b<0 by omega,wrap64 (n:=0-a) (by omega) (by omega),Jz,IT,NH,e1,fw _ _ _ (show ((wN a b:Nat):Int)≠0 by omega),Nk,Nl,wrap64 (n:=dd a b) (by omega) (by omega),wrap64 (n:=dj a b) (by omega) (by omega),h0,wrap64 (n:=0-dd a b) (by omega) (by omega),e2,gN (a:=[]) (b:=aB (dd a b).natAbs) (by simp;omega),hS,h1,gN (a:=aY (dd a b)) (b:=[47]) (by simp;omega),e3,gN (a:=aY (dd a b)++[47]) (b:=aB (dj a b).natAbs) (by simp;omega),hT]
  ·rw [yA h1] at hT
   simp only [go_sem,ya,DL,show ¬a< -4000000000000000000 by omega,show ¬4000000000000000000<a by omega,show ¬b< -4000000000000000000 by omega,show ¬4000000000000000000<b by omega,show ¬b<0 by omega,wrap64 (n:=0-a) (by omega) (by omega),Jz,IT,NH,e1,fw _ _ _ (show ((wN a b:Nat):Int)≠0 by omega),Nk,Nl,wrap64 (n:=dd a b) (by omega) (by omega),wrap64 (n:=dj a b) (by omega) (by omega),h0,wrap64 (n:=0-dd a b) (by omega) (by omega),e2,gN (a:=[]) (b:=aB (dd a b).natAbs) (by simp;omega),hS,h1,hT]
end
end
section
open Go (IntKind)
def TT (n:Int) (d:Nat):List Nat:=aY n++(if d=1 then [] else 47::aB d)
def apM {a b:Int} (hb:0<b):pN a b=TT (dd a b) (dj a b).toNat:=by
 have h:=IU (a:=a) hb;unfold pN TT;by_cases h1:dj a b=1
 ·grind
 ·rw [yA h1,yA (by omega)];obtain ⟨m,hm⟩:∃m:Nat,dj a b=m:=⟨(dj a b).toNat,by omega⟩;rw [hm,List.append_assoc];rfl
def zD (n:Nat):0<(aB n).length:=by
 by_cases h:n<10
 ·rw [oY h];simp
 ·rw [qM h];simp
def I6:∀(n:Nat),n<10^(aB n).length:=by
 intro n
 induction n using vV with
 | _ n ih=>
  by_cases h:n<10
  ·rw [oY h];simpa using h
  ·have:=ih (n/10) (by omega)
   rw [qM h,yW,List.length_singleton,xk];omega
def aaI {n:Nat} (h:(aB n).length<=9):n<1000000000:=
 Nat.lt_of_lt_of_le (I6 n) (by simpa using xD (show 0<10 by decide) h)
def EY (n:Nat):∃b r,aB n=b::r/\48<=b/\b<=57:=by
 cases hq:aB n with
 | nil=>have:=zD n;rw [hq] at this;simp at this
 | cons b r=>
  have:=IJ n
  rw [hq] at this;simp only [dl,ye] at this
  simp_all
section
variable {P:aG} {L:Lib}
def DU (s:List Nat):nt 0 (.str (45::s))=some (.int .u8 45):=rfl
def Tt (q:Bool) (n:Int) (d:Nat):AV:=if q=true then .au [aa n,aa d,.bool true] else .au [aa 0,aa 0,.bool false]
def zV (d:Nat):List Nat:=if d=1 then [] else 47::aB d
def ajL (d:Nat):bR (zV d)=0:=by unfold zV;split<;>rfl
def avH (h:Has P L 276 pM) (Ag:Has P L 272 Kn) (Ah:Has P L 290 Gg) {n:Int} {d:Nat} (hl:(TT n d).length<=20000000000):
  ∃q:Bool,ae P L 276 [.str (TT n d)] (Tt q n d)/\(q=true->n.natAbs<1000000000/\d<1000000000):=by
 generalize hs:TT n d=s at hl;by_cases mY:20<s.length
 ·refine ⟨false,?_,fun h=>by cases h⟩;unfold ae;rw [ay h];simp only [go_sem,ya,pM,show (20:Int)<s.length by omega];rfl
 ·have hu:∃u,u=aB n.natAbs++zV d:=⟨_,rfl⟩;obtain ⟨u,hu⟩:=hu;have hK:∃K,K=(aB n.natAbs).length:=⟨_,rfl⟩;obtain ⟨K,hK⟩:=hK;have nP:bR u=K:=by rw [hu,MA _ (IJ _),ajL,hK];rfl
  have hlen:u.length=K+(zV d).length:=by rw [hu,hK,yW]
  have hp:=zD n.natAbs;obtain ⟨b,r,hb,jS,hb2⟩:=EY n.natAbs;have Eo:(n<0/\s=45::u)\/(¬n<0/\s=u):=by
   by_cases h0:n<0
   ·left;refine ⟨h0,?_⟩;rw [<-hs,hu,TT,nh h0];rfl
   ·right;refine ⟨h0,?_⟩;rw [<-hs,hu,TT,<-nW,yA h0];rfl
  have hul:u.length<=s.length:=by rcases Eo with ⟨_,e⟩ | ⟨_,e⟩<;>rw [e]<;>simp
  have Cg:0<u.length:=by omega
  have rB:u[0]=b:=by
   have:u=b::(r++zV d):=by rw [hu,hb];rfl
   simp [this]
  have e1:=DT Ag (s:=u) (by omega);rw [nP] at e1;have ez:iJ u (some 0) (some K)=some (.str (aB n.natAbs)):=by
   rw [lL (by omega) (by omega),yg,hu,hK,List.take_left]
  unfold ae at e1;by_cases h9:9<K
  ·refine ⟨false,?_,fun h=>by cases h⟩;unfold ae;rw [ay h];rcases Eo with ⟨h0,e⟩ | ⟨h0,e⟩
   ·have mY:¬20<u.length+1:=by rw [e] at mY;exact mY
    have lH:iJ (45::u) (some 1) (some (u.length+1))=some (.str u):=by rw [lL (s:=45::u) (l:=1) (h:=u.length+1) (by omega) (by simp)];simp
    rw [e];simp only [go_sem,ya,pM,show ¬(20:Int)<((u.length+1:Nat):Int) by omega,show (0:Int)<((u.length+1:Nat):Int) by omega,DU,eR,fb,dG,lH,e1,show (9:Int)<(K:Int) by omega];rfl
   ·rw [e];simp only [go_sem,ya,pM,show ¬(20:Int)<(u.length:Nat) by omega,show (0:Int)<(u.length:Nat) by omega,qS Cg,rB,show ¬((b:Nat):Int)=45 by omega,e1,show (9:Int)<(K:Int) by omega];rfl
  ·by_cases iY:10<(zV d).length
   ·refine ⟨false,?_,fun h=>by cases h⟩;unfold ae;rw [ay h];rcases Eo with ⟨h0,e⟩ | ⟨h0,e⟩
    ·have mY:¬20<u.length+1:=by rw [e] at mY;exact mY
     have lH:iJ (45::u) (some 1) (some (u.length+1))=some (.str u):=by rw [lL (s:=45::u) (l:=1) (h:=u.length+1) (by omega) (by simp)];simp
     rw [e]
     simp only [go_sem,ya,pM,show ¬(20:Int)<((u.length+1:Nat):Int) by omega,show (0:Int)<((u.length+1:Nat):Int) by omega,DU,eR,fb,dG,lH,e1,show ¬(9:Int)<(K:Int) by omega,wrap64 (n:=(u.length:Int)-(K:Int)) (by omega) (by omega),show (10:Int)<(u.length:Int)-(K:Int) by omega];rfl
    ·rw [e]
     simp only [go_sem,ya,pM,show ¬(20:Int)<(u.length:Nat) by omega,show (0:Int)<(u.length:Nat) by omega,qS Cg,rB,show ¬((b:Nat):Int)=45 by omega,e1,show ¬(9:Int)<(K:Int) by omega,wrap64 (n:=(u.length:Int)-(K:Int)) (by omega) (by omega),show (10:Int)<(u.length:Int)-(K:Int) by omega];rfl
   ·have e2:=KC Ah (s:=aB n.natAbs) (by omega) (CM n.natAbs);unfold ae at e2;have hm:=aaI (n:=n.natAbs) (by omega);by_cases hd:d=1
    ·subst hd;have ma:zV 1=[]:=rfl;refine ⟨true,?_,fun _=>⟨hm,by decide⟩⟩;rw [ma] at hlen;simp only [yK,y7] at hlen;unfold ae;rw [ay h];rcases Eo with ⟨h0,e⟩ | ⟨h0,e⟩
     ·have mY:¬20<u.length+1:=by rw [e] at mY;exact mY
      have lH:iJ (45::u) (some 1) (some (u.length+1))=some (.str u):=by rw [lL (s:=45::u) (l:=1) (h:=u.length+1) (by omega) (by simp)];simp
      rw [e]
      simp only [go_sem,ya,pM,show ¬(20:Int)<((u.length+1:Nat):Int) by omega,show (0:Int)<((u.length+1:Nat):Int) by omega,DU,eR,fb,dG,lH,e1,show ¬(9:Int)<(K:Int) by omega,wrap64 (n:=(u.length:Int)-(K:Int)) (by omega) (by omega),show ¬(10:Int)<(u.length:Int)-(K:Int) by omega,ez,e2,show ¬(K:Int)<(u.length:Int) by omega,wrap64 (n:=0-(n.natAbs:Int)) (by omega) (by omega)];rw [show 0-(n.natAbs:Int)=n by omega];rfl
     ·rw [e]
      simp only [go_sem,ya,pM,show ¬(20:Int)<(u.length:Nat) by omega,show (0:Int)<(u.length:Nat) by omega,qS Cg,rB,show ¬((b:Nat):Int)=45 by omega,eR,fb,dG,e1,show ¬(9:Int)<(K:Int) by omega,wrap64 (n:=(u.length:Int)-(K:Int)) (by omega) (by omega),show ¬(10:Int)<(u.length:Int)-(K:Int) by omega,ez,e2,show ¬(K:Int)<(u.length:Int) by omega];rw [show (n.natAbs:Int)=n by omega];rfl
    ·have ma:zV d=47::aB d:=yA hd;have Ch:(zV d).length=(aB d).length+1:=by rw [ma];rfl
     have hpd:=zD d;have hd9:=aaI (n:=d) (by omega);have e3:=KC Ah (s:=aB d) (by omega) (CM d);unfold ae at e3;have zd:iJ u (some (K+1)) (some u.length)=some (.str (aB d)):=by
      rw [lL (by omega) (yr _),xQ,hu,ma,hK,show (aB n.natAbs).length+1=(aB n.natAbs++[47]).length by simp,show aB n.natAbs++47::aB d=(aB n.natAbs++[47])++aB d by simp,List.drop_left]
     refine ⟨true,?_,fun _=>⟨hm,hd9⟩⟩;unfold ae;rw [ay h];rcases Eo with ⟨h0,e⟩ | ⟨h0,e⟩
     ·have mY:¬20<u.length+1:=by rw [e] at mY;exact mY
      have lH:iJ (45::u) (some 1) (some (u.length+1))=some (.str u):=by rw [lL (s:=45::u) (l:=1) (h:=u.length+1) (by omega) (by simp)];simp
      rw [e]
      simp only [go_sem,ya,pM,show ¬(20:Int)<((u.length+1:Nat):Int) by omega,show (0:Int)<((u.length+1:Nat):Int) by omega,DU,eR,fb,dG,lH,e1,show ¬(9:Int)<(K:Int) by omega,wrap64 (n:=(u.length:Int)-(K:Int)) (by omega) (by omega),show ¬(10:Int)<(u.length:Int)-(K:Int) by omega,ez,e2,show (K:Int)<(u.length:Int) by omega,wrapN (n:=K+1) (by omega),show (K:Int)+1=((K+1:Nat):Int) from rfl,zd,e3,wrap64 (n:=0-(n.natAbs:Int)) (by omega) (by omega)];rw [show 0-(n.natAbs:Int)=n by omega];rfl
     ·rw [e]
      simp only [go_sem,ya,pM,show ¬(20:Int)<(u.length:Nat) by omega,show (0:Int)<(u.length:Nat) by omega,qS Cg,rB,show ¬((b:Nat):Int)=45 by omega,eR,fb,dG,e1,show ¬(9:Int)<(K:Int) by omega,wrap64 (n:=(u.length:Int)-(K:Int)) (by omega) (by omega),show ¬(10:Int)<(u.length:Int)-(K:Int) by omega,ez,e2,show (K:Int)<(u.length:Int) by omega,wrapN (n:=K+1) (by omega),show (K:Int)+1=((K+1:Nat):Int) from rfl,zd,e3];rw [show (n.natAbs:Int)=n by omega];rfl
end
end
section
open Go (IntKind)
section
variable {P:aG} {L:Lib}
def U9 (h:Has P L 302 sH) {v:AV} {l:List Int} (hv:bl v l) (i:Nat):ae P L 302 [v,aa i] (aa (l.getD i 0)):=by
 unfold ae;rw [ay h];by_cases hi:i<l.length
 ·simp only [go_sem,ya,sH,hv.len,show (i:Int)<l.length by omega,hv.aZ hi];simp [xK,wo hi]
 ·simp only [go_sem,ya,sH,hv.len,show ¬(i:Int)<l.length by omega];simp [xK,List.getElem?_eq_none (Nat.le_of_not_lt hi)]
def abM {hp:Hp} {e:Bool} {n:Nat} {cs:List AV} {tm:Env} {h:Nat} {x:X} (hx:cP tm n (some x)=some h) (hh:h<=n):
  fh hp (.sl 1) (.aJ e n cs) tm none (some x)=some (.aJ (e&&yv h n) h (cs.take h)):=by
 simp only [fh,hx,fb];simp [yx hh,slice];rw [show yE 0 h=true from yx (tq _)];rfl
def BO (h:Has P L 300 lS) {v:AV} {l:List Int} (hv:bl v l) (hl:l.length<=20000000000):∃r,ae P L 300 [v] r/\bl r (eb l)/\shut r=r:=by
 rcases hv with ⟨rfl,h0⟩ | ⟨e,rfl⟩
 ·have:l=[]:=by simpa using h0
  subst this;refine ⟨.ab,?_,nf,rfl⟩;unfold ae;rw [ay h];simp only [go_sem,ya,lS,FJ,Da,an,show ¬(0:Int)<0 by decide]
 ·have key:=eF (P:=P) (L:=L) (live:=[0]) (a:=Da)
   (I:=fun k st=>∃(i:Nat) (e:Bool),st=⟨[(0,.aJ e i ((l.take i).map aa))],[],0,0⟩/\i<=l.length/\i=k/\eb (l.take i)=eb l)
   (Q:=fun ex st=>∃tm ct,st=⟨tm,[],ct,0⟩/\ex= .exit 0/\∃i e,ah tm 0= .aJ e i ((l.take i).map aa)/\i<=l.length/\l.take i=eb l) ?_
  ·have hlen:(l.map aa).length=l.length:=by simp
   rw [hlen];have jh:∃i e',ae P L 300 [.aJ e l.length (l.map aa)] (.aJ e' i ((l.take i).map aa))/\i<=l.length/\l.take i=eb l:=by
    unfold ae;rw [ay h];simp only [go_sem,lS];generalize hq:D P L (.loop [0] Da) _=q;obtain ⟨ex,st,rfl,tm,ct,rfl,rfl,i,e',h2,h3,h4⟩:=bD hq (key l.length) ⟨l.length,e,by simp only [go_sem,ya,an,xQ],yr _,rfl,by rw [xQ]⟩;simp only [go_sem,an,h2];exact ⟨i,e',rfl,h3,h4⟩
   obtain ⟨i,e',g1,g2,g3⟩:=jh;refine ⟨_,g1,?_,rfl⟩;rw [<-g3]
   have:=fy e' (l.take i)
   rwa [yQ,xX g2] at this
  ·rintro k st ⟨i,e,rfl,hi,rfl,ht⟩
   cases i with
   | zero=>
    right
    simp only [go_sem,ya,Da,show ¬(0:Int)<((0:Nat):Int) by omega];exact ⟨_,_,rfl,by simp,_,_,rfl,rfl,0,e,by simp only [go_sem,ya],tq _,by simpa [eb] using ht⟩
   | succ i=>
    have LI:i<l.length:=by omega
    have eK:l.take (i+1)=l.take i++[l[i]]:=yB LI;have jm:xg i ((l.take (i+1)).map aa)=[AV.int .i64 l[i]]:=by
     rw [eK,List.map_append,List.drop_left' (by simp;omega)];rfl
    have oN:hZ 1 i (.aJ e (i+1) ((l.take (i+1)).map aa))=some (.aQ [AV.int .i64 l[i]]):=by
     rw [NG e _ (by omega),yh,jm]
    by_cases h0:l[i]=0
    ·left
     have iV:∀tm x,cP tm (i+1) (some x)=some i->fh [] (.sl 1) (.aJ e (i+1) ((l.take (i+1)).map aa)) tm none (some x)=some (.aJ (e&&yv i (i+1)) i ((l.take i).map aa)):=fun tm x hx=>by
      rw [abM hx (by omega),<-yaG,List.take_take,xX (by omega)]
     simp only [go_sem,ya,Da,show (0:Int)<((i+1:Nat):Int) by omega,show ((i+1:Nat):Int)-1=(i:Int) by omega,wrapN (n:=i) (by omega),oN,h0,iV,dG];refine ⟨_,i,rfl,by omega,i,_,by simp only [go_sem,an]<;>rfl,by omega,rfl,?_⟩
     rw [<-ht,eK,h0,Iy]
    ·right
     simp only [go_sem,ya,Da,show (0:Int)<((i+1:Nat):Int) by omega,show ((i+1:Nat):Int)-1=(i:Int) by omega,wrapN (n:=i) (by omega),oN,h0];refine ⟨_,_,rfl,by simp,_,_,rfl,rfl,i+1,e,by simp only [go_sem,ya],by omega,?_⟩;rw [<-ht,eK,MM h0]
end
end
section
open Go (IntKind)
abbrev uc (n:Nat):AV:= .int .u64 (n:Int)
def bJ (v:AV) (l:List Nat):Prop:=cS v (l.map uc)
section
variable {v:AV} {l:List Nat}
def bJ.len (h:bJ v l) {hp:Hp}:ia hp 1 v=some (.int .i64 (l.length:Nat)):=by
 have:=cS.len (hp:=hp) h
 grind
def bJ.pu (h:bJ v l):aU v=true:=cS.pu h
def bJ.af (h:bJ v l) (n:Nat) {hp:Hp}:freeze (n+1) hp v=some (v,hp):=cS.af h n
def bJ.shut (h:bJ v l):VE.shut v=v:=cS.shut h
def bJ.bG (h:bJ v l):VE.bG v=v:=cS.bG h
def bJ.dw (h:bJ v l) {hp:Hp}:result hp v=some v:=cS.dw h
def bJ.one (h:bJ v l):bm v=true:=cS.one h
def bJ.cells (h:bJ v l):cellsOf v=[v]:=cS.cells h
def bJ.aZ (h:bJ v l) {i:Nat} (hi:i<l.length):hZ 1 i v=some (.aQ (uc (l.getD i 0)::(l.map uc).drop (i+1))):=by
 have:=cS.aZ h (i:=i) (by simpa using hi)
 grind
def nj (e:Bool) (l:List Nat):bJ (.aJ e l.length (l.map uc)) l:=by
 have:=CW e (l.map uc)
 rwa [List.length_map] at this
def zE:bJ .ab []:=nf
end
def kM {hp:Hp} {ct id o:Nat} {v:Nat} {ex:Bool} {l:List Nat} (h:o<l.length):fE hp ct id o 1 [.int .u64 (v:Int)] (some (.cells true true ex 1 (l.map uc)))=some (.au [],bg hp id (.cells true true ex 1 ((l.set o v).map uc)),ct):=by
 rw [mD (by rfl) (by simp;omega) (by rfl)]
 have:over o [uc v] (l.map uc)=(l.set o v).map uc:=by
  simp only [over,yC,yK,yd];rw [List.map_set,List.set_eq_take_append_cons_drop,yH (by simpa using h)]
  simp
 rw [this];rfl
def zW {l:List Nat} {o:Nat} (h:o<l.length):xg o (l.map uc)=uc (l.getD o 0)::xg (o+1) (l.map uc):=by
 rw [yN (by simpa using h)]
 grind
def apN (n:Nat):(yG n [AV.int .u64 0]).flatten=(yG n 0).map uc:=by simp_all
def DV (ct:Nat) {n:Nat} (h:n<=100000000000):Af ct 1 8 [.int .u64 0] (some n) (some n)=some (.aC ct 0 n,.cells true true true 1 ((yG n 0).map uc)):=by
 rw [Jy (sz:=1) (by omega) (by omega) (by rfl) (by rfl),apN];rfl
def BP (hp:Hp) {n:Nat} {l:List Nat} (h:l.length=n) (ex:Bool):lU 0 n (some (ex,1,l.map uc,hp))=some (.aJ ex n (l.map uc),hp):=qK ex (by simp [h]) (by decide)
def aeW {n:Nat} (h:n<18446744073709551616):IntKind.wrap .u64 (n:Int)=n:=auk (by omega) (by omega)
section
variable {P:aG} {L:Lib} {f:cD}
def jM {a b:Nat} (h:a<b):yM a b=true:=by simp_all
def Dk (h:L.pure 171=some nZ) {x y c:Nat} (hx:x<18446744073709551616) (hy:y<18446744073709551616) (hc:c<=1):
  bQ P L f 171 [uc x,uc y,uc c]=some (.au [uc ((x+y+c)%18446744073709551616),uc ((x+y+c)/18446744073709551616)]):=by
 rw [js h];show (bif yE c 1&&(yM x 18446744073709551616&&yM y 18446744073709551616) then _ else none)=_
 rw [yx hc,jM hx,jM hy];rfl
def Tu (h:L.pure 173=some Be) {x y c:Nat} (hx:x<18446744073709551616) (hy:y<18446744073709551616) (hc:c<=1):
  bQ P L f 173 [uc x,uc y,uc c]=some (.au [uc ((x+18446744073709551616*2-y-c)%18446744073709551616),uc (if y+c<=x then 0 else 1)]):=by
 rw [js h];show (bif yE c 1&&(yM x 18446744073709551616&&yM y 18446744073709551616) then _ else none)=_
 rw [yx hc,jM hx,jM hy];by_cases hh:y+c<=x
 ·rw [yx hh,yH hh];rfl
 ·have:yE (y+c) x=false:=by
   cases hq:yE (y+c) x with
   | false=>rfl
   | true=>exact absurd (yu hq) hh
  grind
def NX (h:L.pure 143=some r9) {x y:Nat} (hx:x<18446744073709551616) (hy:y<18446744073709551616):
  bQ P L f 143 [uc x,uc y]=some (.au [uc (x*y/18446744073709551616),uc (x*y%18446744073709551616)]):=by
 rw [js h];show (bif yM x 18446744073709551616&&yM y 18446744073709551616 then _ else none)=_
 rw [jM hx,jM hy];rfl
def anp {hp:Hp} {tm:Env} {x:X} (hx:cP tm 0 (some x)=some 0):fh hp (.sl 1) .ab tm none (some x)=some .ab:=by
 simp only [fh,hx,fb]
def BQ (h:Has P L 166 BF) {v:AV} {l:List Nat} (hv:bJ v l) (hl:l.length<=100000000000):∃r,ae P L 166 [v] r/\bJ r (ef l):=by
 rcases hv with ⟨rfl,h0⟩ | ⟨e,rfl⟩
 ·have:l=[]:=by simpa using h0
  subst this;refine ⟨.ab,?_,nf⟩;unfold ae;rw [ay h];simp only [go_sem,ya,BF,FJ,C7,an,show ¬(0:Int)<0 by decide,anp,dG]
 ·have key:=eF (P:=P) (L:=L) (live:=[0,3]) (a:=C7)
   (I:=fun k st=>∃(i:Nat),st=⟨[(0,.aJ e l.length (l.map uc)),(3,aa i)],[],0,0⟩/\i<=l.length/\i=k/\ef (l.take i)=ef l)
   (Q:=fun ex st=>∃tm ct,st=⟨tm,[],ct,0⟩/\ex= .exit 0/\∃i:Nat,ah tm 0= .aJ e l.length (l.map uc)/\ah tm 3=aa i/\i<=l.length/\l.take i=ef l) ?_
  ·have hlen:(l.map uc).length=l.length:=by simp
   rw [hlen];have jh:∃i e',ae P L 166 [.aJ e l.length (l.map uc)] (.aJ e' i ((l.take i).map uc))/\i<=l.length/\l.take i=ef l:=by
    unfold ae;rw [ay h];simp only [go_sem,ya,BF];generalize hq:D P L (.loop [0,3] C7) _=q;obtain ⟨ex,st,rfl,tm,ct,rfl,rfl,i,h2,h3,h4,h5⟩:=bD hq (key l.length) ⟨l.length,by simp only [go_sem,ya,an],yr _,rfl,by rw [xQ]⟩;have iV:∀tm x,cP tm l.length (some x)=some i->fh [] (.sl 1) (.aJ e l.length (l.map uc)) tm none (some x)=some (.aJ (e&&yv i l.length) i ((l.map uc).take i)):=fun tm x hx=>abM hx h4
    simp only [go_sem,ya,an,h2,h3,iV,dG];exact ⟨i,_,by rw [yaG],h4,h5⟩
   obtain ⟨i,e',g1,g2,g3⟩:=jh;refine ⟨_,g1,?_⟩;rw [<-g3]
   have:=nj e' (l.take i)
   rwa [yQ,xX g2] at this
  ·rintro k st ⟨i,rfl,hi,rfl,ht⟩
   cases i with
   | zero=>
    right
    simp only [go_sem,ya,C7,show ¬(0:Int)<((0:Nat):Int) by omega];exact ⟨_,_,rfl,by simp,_,_,rfl,rfl,0,by simp only [go_sem,ya],by simp only [go_sem,ya],tq _,by simpa [ef] using ht⟩
   | succ i=>
    have LI:i<l.length:=by omega
    have eK:l.take (i+1)=l.take i++[l[i]]:=yB LI;have oN:=(nj e l).aZ LI;rw [<-gd LI] at oN;by_cases h0:l[i]=0
    ·left
     simp only [go_sem,ya,C7,show (0:Int)<((i+1:Nat):Int) by omega,show ((i+1:Nat):Int)-1=(i:Int) by omega,wrapN (n:=i) (by omega),oN,show ((l[i]:Nat):Int)=0 by omega];refine ⟨_,i,rfl,by omega,i,by simp only [go_sem,ya,an],by omega,rfl,?_⟩;rw [<-ht,eK,h0,MN]
    ·right
     simp only [go_sem,ya,C7,show (0:Int)<((i+1:Nat):Int) by omega,show ((i+1:Nat):Int)-1=(i:Int) by omega,wrapN (n:=i) (by omega),oN,show ¬((l[i]:Nat):Int)=0 by omega];refine ⟨_,_,rfl,by simp,_,_,rfl,rfl,i+1,by simp only [go_sem,ya],by simp only [go_sem,ya],by omega,?_⟩;rw [<-ht,eK,EV h0]
end
end
section
open Go (IntKind)
def MP (p b s:Nat):p*(s%b)+p*b*(s/b)=p*s:=by
 rw [Nat.mul_assoc,<-Nat.mul_add,Nat.mod_add_div]
def alj {b:Nat} {x y out:List Nat} {i c:Nat} (hi:i<out.length) (hz:out.getD i 0=0) (hv:bv b out+b^i*c=bv b (x.take i)+bv b (y.take i)):
  bv b (out.set i ((x.getD i 0+y.getD i 0+c)%b))+b^(i+1)*((x.getD i 0+y.getD i 0+c)/b)=bv b (x.take (i+1))+bv b (y.take (i+1)):=by
 have h1:=n7 (b:=b) (x:=(x.getD i 0+y.getD i 0+c)%b) hi;have h2:=MP (b^i) b (x.getD i 0+y.getD i 0+c);rw [hz,xI,y7] at h1;rw [jv,jv,xk,h1]
 grind
def alk {b:Nat} {x y out:List Nat} {i c z c':Nat} (hi:i<out.length) (hz:out.getD i 0=0) (hs:z+y.getD i 0+c=x.getD i 0+b*c') (hv:bv b out+bv b (y.take i)=bv b (x.take i)+b^i*c):
  bv b (out.set i z)+bv b (y.take (i+1))=bv b (x.take (i+1))+b^(i+1)*c':=by
 have h1:=n7 (b:=b) (x:=z) hi;rw [hz,xI,y7] at h1;rw [jv,jv,xk,h1]
 grind
section
variable {P:aG} {L:Lib}
def afD (h:Has P L 158 Gc) {v w:AV} {x y:List Nat} (hv:bJ v x) (hw:bJ w y) (hx:lo 18446744073709551616 x) (hy:lo 18446744073709551616 y) (nx:gY x) (ny:gY y) (lx:x.length<=100000000000) (ly:y.length<=100000000000):
  ae P L 158 [v,w] (aa (dR (bv 18446744073709551616 x) (bv 18446744073709551616 y))):=by
 unfold ae;rw [ay h];by_cases hlen:x.length=y.length
 ·have key:=eF (P:=P) (L:=L) (live:=[0,1,5]) (a:=C6)
   (I:=fun k st=>∃j:Nat,st=⟨[(0,v),(1,w),(5,aa ((j:Int)-1))],[],0,0⟩/\j<=x.length/\j=k/\x.drop j=y.drop j)
   (Q:=fun ex st=>∃tm ct,st=⟨tm,[],ct,0⟩/\((ex= .ret/\ah tm 4=aa (dR (bv 18446744073709551616 x) (bv 18446744073709551616 y)))\/(ex= .exit 0/\x=y))) ?_
  ·simp only [go_sem,ya,Gc,hv.len,hw.len,show (x.length:Int)=y.length by omega];generalize hq:D P L (.loop [0,1,5] C6) _=q;obtain ⟨ex,st,rfl,tm,ct,rfl,h2⟩:=bD hq (key x.length) ⟨x.length,by
    rw [wrap64 (by omega) (by omega),hlen]
    simp only [go_sem,ya,an,ak hv.pu,ao _ hv.pu,ak hw.pu,ao _ hw.pu]<;>rfl,yr _,rfl,by rw [yT (yr _),yT (by omega)]⟩
   rcases h2 with ⟨rfl,h2⟩ | ⟨rfl,h2⟩
   ·simp only [go_sem,h2]
   ·simp only [go_sem,an];subst h2;simp [dR]
  ·rintro k st ⟨j,rfl,hj,rfl,he⟩
   cases j with
   | zero=>
    right
    simp only [go_sem,ya,C6,show ¬(0:Int)<=((0:Nat):Int)-1 by omega];exact ⟨_,_,rfl,by simp,_,_,rfl,.inr ⟨rfl,by simpa using he⟩⟩
   | succ i=>
    have h1:i<x.length:=by omega
    have h2:i<y.length:=by omega
    have GK:=abG hx h1 h2 he;have a7:=abG hy h2 h1 he.symm;by_cases c0:x.getD i 0=y.getD i 0
    ·left
     simp only [go_sem,ya,C6,show ((i+1:Nat):Int)-1=(i:Int) by omega,show (0:Int)<=(i:Int) by omega,hv.aZ h1,hw.aZ h2,c0];refine ⟨_,i,rfl,by omega,i,?_,by omega,rfl,?_⟩
     ·rw [wrap64 (by omega) (by omega)];simp only [go_sem,ya,an,ak hv.pu,ao _ hv.pu,ak hw.pu,ao _ hw.pu]<;>rfl
     ·rw [yN h1,yN h2,he,gd h1,gd h2,c0]
    ·by_cases c1:x.getD i 0<y.getD i 0
     ·right
      simp only [go_sem,ya,C6,show ((i+1:Nat):Int)-1=(i:Int) by omega,show (0:Int)<=(i:Int) by omega,hv.aZ h1,hw.aZ h2,show ¬((x.getD i 0:Nat):Int)=(y.getD i 0:Nat) by omega,show ((x.getD i 0:Nat):Int)<(y.getD i 0:Nat) by omega];refine ⟨_,_,rfl,by simp,_,_,rfl,.inl ⟨rfl,?_⟩⟩;simp only [go_sem];unfold dR;rw [yH (GK c1)]
     ·right
      simp only [go_sem,ya,C6,show ((i+1:Nat):Int)-1=(i:Int) by omega,show (0:Int)<=(i:Int) by omega,hv.aZ h1,hw.aZ h2,show ¬((x.getD i 0:Nat):Int)=(y.getD i 0:Nat) by omega,show ¬((x.getD i 0:Nat):Int)<(y.getD i 0:Nat) by omega];refine ⟨_,_,rfl,by simp,_,_,rfl,.inl ⟨rfl,?_⟩⟩;simp only [go_sem];unfold dR;rw [yA (by omega),yH (by omega)]
 ·by_cases c1:x.length<y.length
  ·have:=NE (b:=18446744073709551616) (by decide) hx ny c1
   simp only [go_sem,ya,Gc,hv.len,hw.len,show ¬(x.length:Int)=y.length by omega,show (x.length:Int)<y.length by omega];unfold dR;rw [yH this]
  ·have:=NE (b:=18446744073709551616) (by decide) hy nx (show y.length<x.length by omega)
   simp only [go_sem,ya,Gc,hv.len,hw.len,show ¬(x.length:Int)=y.length by omega,show ¬(x.length:Int)<y.length by omega];unfold dR;rw [yA (by omega),yH this]
def adp (gT:L.pure 171=some nZ) {v w:AV} {x y:List Nat} (hv:bJ v x) (hw:bJ w y) (hx:lo 18446744073709551616 x) (hy:lo 18446744073709551616 y) (lx:x.length<=99999999999) (ly:y.length<=x.length) {n:Nat} (hn:n=x.length+1):
  ∀k s,(∃(i c:Nat) (out:List Nat),aT [0,1,5,6,21,22] s=⟨[(0,v),(1,w),(5,.aC 0 0 n),(6,uc c),(21,aa x.length),(22,aa i)],[(0,.cells true true true 1 (out.map uc))],1,0⟩/\i+k=x.length/\out.length=n/\c<=1/\lo 18446744073709551616 out/\
    bv 18446744073709551616 out+18446744073709551616^i*c=bv 18446744073709551616 (x.take i)+bv 18446744073709551616 (y.take i)/\(∀m,i<=m->out.getD m 0=0))->
   ∃ex s',D P L (.loop [0,1,5,6,21,22] C5) s=some (ex,s')/\∃tm c out,s'=⟨tm,[(0,.cells true true true 1 (out.map uc))],1,0⟩/\ex= .exit 0/\ah tm 0=v/\ah tm 5= .aC 0 0 n/\ah tm 6=uc c/\out.length=n/\c<=1/\lo 18446744073709551616 out/\
    bv 18446744073709551616 out+18446744073709551616^x.length*c=bv 18446744073709551616 x+bv 18446744073709551616 y/\out.getD x.length 0=0:=by
 intro dq sq;generalize bw:aT [0,1,5,6,21,22] sq=s0;revert bw s0 sq dq;apply dn;rintro k s ⟨i,c,out,rfl,hk,hlen,hc,bj,aR,gL⟩;by_cases hi:i<x.length
 ·left
  have hz:=gL i (yr _);have lh:=alj (x:=x) (y:=y) (show i<out.length by omega) hz aR;have gx:=gO (show 0<18446744073709551616 by decide) hx i;have gy:=gO (show 0<18446744073709551616 by decide) hy i;have e1:=Dk (P:=P) (f:=D P L) gT gx gy hc;have ex:=hv.aZ hi;generalize x.getD i 0=p at*
  by_cases hj:i<y.length
  ·have ey:=hw.aZ hj;generalize y.getD i 0=q at*
   simp only [go_sem,ya,yh,C5,hw.len,show (i:Int)<x.length by omega,show (i:Int)<y.length by omega,ex,ey,e1,cW 0 0 (show i<n by omega),yd,kM (l:=out) (o:=i) (by omega)]
   refine ⟨_,k-1,rfl,by omega,i+1,(p+q+c)/18446744073709551616,_,?_,by omega,by simp [hlen],by omega,mv bj (x:=(p+q+c)%18446744073709551616) (i:=i) (by omega),lh,fun m hm=>?_⟩
   ·rw [wrap64 (by omega) (by omega)];simp only [go_sem,ya,yb,an,ak hv.pu,ao _ hv.pu,ak hw.pu,ao _ hw.pu]<;>rfl
   ·rw [po (by omega)];exact gL m (by omega)
  ·have jW:y.getD i 0=0:=Tp (by omega);rw [jW] at lh e1;rw [show (uc 0)=AV.int .u64 0 from rfl] at e1
   simp only [go_sem,ya,yh,C5,hw.len,show (i:Int)<x.length by omega,show ¬(i:Int)<y.length by omega,ex,e1,cW 0 0 (show i<n by omega),yd,kM (l:=out) (o:=i) (by omega)]
   refine ⟨_,k-1,rfl,by omega,i+1,(p+0+c)/18446744073709551616,_,?_,by omega,by simp [hlen],by omega,mv bj (x:=(p+0+c)%18446744073709551616) (i:=i) (by omega),lh,fun m hm=>?_⟩
   ·rw [wrap64 (by omega) (by omega)];simp only [go_sem,ya,yb,an,ak hv.pu,ao _ hv.pu,ak hw.pu,ao _ hw.pu]<;>rfl
   ·rw [po (by omega)];exact gL m (by omega)
 ·right
  have:i=x.length:=by omega
  subst this;rw [xQ,List.take_of_length_le ly] at aR;simp only [go_sem,ya,C5,show ¬(x.length:Int)<x.length by omega];exact ⟨_,_,rfl,by simp,_,c,out,rfl,rfl,by simp only [go_sem,ya],by simp only [go_sem,ya],by simp only [go_sem,ya],hlen,hc,bj,aR,gL _ (yr _)⟩
def avI (h:Has P L 157 Kf) (mN:Has P L 166 BF) (gT:L.pure 171=some nZ) {v w:AV} {x y:List Nat} (hv:bJ v x) (hw:bJ w y) (hx:lo 18446744073709551616 x) (hy:lo 18446744073709551616 y) (lx:x.length<=99999999999) (ly:y.length<=99999999999):
  ∃r out,ae P L 157 [v,w] r/\bJ r out/\lo 18446744073709551616 out/\gY out/\bv 18446744073709551616 out=bv 18446744073709551616 x+bv 18446744073709551616 y:=by
 have fin:∀{x y o:List Nat} {n c:Nat},n=x.length+1->x.length<=99999999999->o.length=n->c<=1->lo 18446744073709551616 o->bv 18446744073709551616 o+18446744073709551616^x.length*c=bv 18446744073709551616 x+bv 18446744073709551616 y->o.getD x.length 0=0->
   ∃r,bQ P L (D P L) 166 [.aJ true n ((o.set x.length c).map uc)]=some r/\bJ r (ef (o.set x.length c))/\lo 18446744073709551616 (ef (o.set x.length c))/\gY (ef (o.set x.length c))/\bv 18446744073709551616 (ef (o.set x.length c))=bv 18446744073709551616 x+bv 18446744073709551616 y:=by
  intro x y o n c hn lx hlen hc bj aR hz;have bg:=n7 (b:=18446744073709551616) (l:=o) (i:=x.length) (x:=c) (by omega);rw [hz,xI,y7,aR] at bg;have avJ:lo 18446744073709551616 (o.set x.length c):=mv bj (by omega);have hf:=nj true (o.set x.length c);rw [List.length_set,hlen] at hf;obtain ⟨r,e1,hr⟩:=BQ mN hf (by simp;omega);exact ⟨r,e1,hr,A5 avJ,A4 _,by rw [A3];exact bg⟩
 by_cases hl:x.length<y.length
 ·obtain ⟨n,hn⟩:∃n,n=y.length+1:=⟨_,rfl⟩;unfold ae;rw [ay h]
  simp only [go_sem,ya,yb,Kf,hv.len,hw.len,show (x.length:Int)<y.length by omega,wrapN (n:=n) (by omega),show (y.length:Int)+1=((y.length+1:Nat):Int) from rfl,<-hn,DV (n:=n) _ (by omega)];generalize hq:D P L (.loop [0,1,5,6,21,22] C5) _=q;obtain ⟨ex,s,rfl,tm,c,o,rfl,rfl,t0,t5,t6,hlen,hc,bj,aR,hz⟩:=bD hq (adp (P:=P) (L:=L) gT hw hv hy hx ly (by omega) hn y.length)
   ⟨0,0,yG n 0,by simp only [go_sem,ya,yb,an,ak hv.pu,ao _ hv.pu,ak hw.pu,ao _ hw.pu]<;>rfl,by omega,by simp,by omega,FH (by decide) n,by rw [FI];simp [bv],fun m _=>CV n m⟩
  obtain ⟨r,e1,hr,f1,f2,f3⟩:=fin hn ly hlen hc bj aR hz;refine ⟨r,_,?_,hr,f1,f2,by rw [f3];omega⟩
  simp only [go_sem,ya,yh,an,ak hw.pu,ao _ hw.pu,hw.len,t0,t5,t6,cW 0 0 (show y.length<n by omega),yd,kM (l:=o) (o:=y.length) (by omega)]
  simp only [go_sem,BP _ (n:=n) (l:=o.set y.length c) (by simp [hlen]) true,e1,hr.shut,hr.dw]
 ·obtain ⟨n,hn⟩:∃n,n=x.length+1:=⟨_,rfl⟩;unfold ae;rw [ay h]
  simp only [go_sem,ya,yb,Kf,hv.len,hw.len,show ¬(x.length:Int)<y.length by omega,wrapN (n:=n) (by omega),show (x.length:Int)+1=((x.length+1:Nat):Int) from rfl,<-hn,DV (n:=n) _ (by omega)];generalize hq:D P L (.loop [0,1,5,6,21,22] C5) _=q;obtain ⟨ex,s,rfl,tm,c,o,rfl,rfl,t0,t5,t6,hlen,hc,bj,aR,hz⟩:=bD hq (adp (P:=P) (L:=L) gT hv hw hx hy lx (by omega) hn x.length)
   ⟨0,0,yG n 0,by simp only [go_sem,ya,yb,an,ak hv.pu,ao _ hv.pu,ak hw.pu,ao _ hw.pu]<;>rfl,by omega,by simp,by omega,FH (by decide) n,by rw [FI];simp [bv],fun m _=>CV n m⟩
  obtain ⟨r,e1,hr,f1,f2,f3⟩:=fin hn lx hlen hc bj aR hz;refine ⟨r,_,?_,hr,f1,f2,f3⟩
  simp only [go_sem,ya,yh,an,ak hv.pu,ao _ hv.pu,hv.len,t0,t5,t6,cW 0 0 (show x.length<n by omega),yd,kM (l:=o) (o:=x.length) (by omega)]
  simp only [go_sem,BP _ (n:=n) (l:=o.set x.length c) (by simp [hlen]) true,e1,hr.shut,hr.dw]
end
end
end VE
