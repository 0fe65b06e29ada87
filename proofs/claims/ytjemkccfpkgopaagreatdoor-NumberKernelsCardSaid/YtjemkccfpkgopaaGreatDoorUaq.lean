import Derived.Test.YtjemkccfpkgopaaGreatDoorUap
import Derived.Test.YtjemkccfpkgopaaGreatDoorUae
import Derived.Test.YtjemkccfpkgopaaGreatDoorUai
set_option linter.all false
set_option maxRecDepth 100000
open Bool renaming and_eq_true→ye,and_true→ue
open Go renaming IntKind→yY
open Int renaming ediv_emod_unique→uU,gcd→wO,gcd_dvd_left→uZ,gcd_dvd_right→uQ,mul_ediv_cancel'→tY,natAbs_ediv_of_dvd→ua,tdiv_eq_ediv_of_dvd→tE,tmod_eq_emod_of_nonneg→xX
open List renaming cons_append→xh,drop→vZ,drop_eq_getElem_cons→yX,drop_eq_nil_of_le→xj,drop_zero→yH,getD_eq_getElem?_getD→yz,getElem?_eq_getElem→yK,length_append→yL,length_cons→yG,length_nil→yO,length_take→yI,map_take→yaS,replicate→yq,take_length→xx,take_of_length_le→yN,take_succ_eq_append_getElem→xa
open Nat renaming add_zero→yZ,beq→yx,beq_refl→vd,ble→yF,ble_eq_true_of_le→yt,blt→yP,div_le_self→vh,gcd→wz,gcd_comm→uI,gcd_rec→ybM,le_of_ble_eq_true→yA,le_refl→yo,min_eq_left→xE,mod_eq_of_lt→yU,mod_lt→xp,mul_add→xt,mul_assoc→xk,mul_one→yi,mul_zero→xD,pow_le_pow_right→xb,pow_succ→xc,reduceAdd→yb,reduceEqDiff→ya,reduceMul→xM,strongRecOn→ud,zero_add→yg,zero_le→uG
open Option.some renaming injEq→yd
namespace VE
section
open Go (IntKind)
section
variable {P:aH} {L:Lib} {f:cy} {tm:Env} {hp:Hp} {ct:Nat}
def aoz (k:yY) (n:Int):cellsOf (.int k n)=[.int k n]:=(rfl)
def ank (b:Bool):cellsOf (.bool b)=[.bool b]:=(rfl)
def aoA (s:List Nat):cellsOf (.str s)=[.str s]:=(rfl)
def anl:cellsOf .aa=[.aa]:=(rfl)
def aoB (e:Bool) (n:Nat) (cs:List AV):cellsOf (.ai e n cs)=[.ai e n cs]:=(rfl)
def aoC (id o n:Nat):cellsOf (.aC id o n)=[.aC id o n]:=(rfl)
def aoD (id o:Nat):cellsOf (.ptr id o)=[.ptr id o]:=(rfl)
def aqD (g:Fr) (a b:List AV):cellsOf (.fn g a b)=[.fn g a b]:=(rfl)
def aoE (cs:List AV):cellsOf (.agg cs)=cs:=(rfl)
def afE (k:yY) (n:Int):dc (.int k n)=true:=(rfl)
def aqE (b:Bool):dc (.bool b)=true:=(rfl)
def asL (s:List Nat):dc (.str s)=true:=(rfl)
def aqF:dc .aa=true:=(rfl)
def asM (e:Bool) (n:Nat) (cs:List AV):dc (.ai e n cs)=true:=(rfl)
def asN (id o n:Nat):dc (.aC id o n)=true:=(rfl)
def asP (id o:Nat):dc (.ptr id o)=true:=(rfl)
def awu (g:Fr) (a b:List AV):dc (.fn g a b)=true:=(rfl)
def aqG:cm []=true:=(rfl)
def abo (v:AV) (r:List AV):cm (v::r)=(dc v&&cm r):=(rfl)
def aoF:aG []=true:=(rfl)
def anm (v:AV) (r:List AV):aG (v::r)=(aZ v&&aG r):=(rfl)
def awv (id o:Nat):aZ (.ptr id o)=false:=(rfl)
def aww (id o n:Nat):aZ (.aC id o n)=false:=(rfl)
def ayQ (g:Nat) (a b:List AV):aZ (.fn (.f g) a b)=(aG a&&aG b):=(rfl)
def az7 (l:Nat) (a b:List AV):aZ (.fn (.y l) a b)=false:=(rfl)
def awx (cs:List AV):aZ (.agg cs)=aG cs:=(rfl)
def awy (cs:List AV):aZ (.ae cs)=aG cs:=(rfl)
def ET (ct sz:Nat) (cs:List AV):Option (AV×Obj):=bif yx cs.length sz&&cm cs then some (.ptr ct 0,.cells true (aG cs) true sz cs) else none
def awz (sz:Nat) (x:X):cO tm hp ct (.box sz x)=ET ct sz (cellsOf (aE tm x)):=rfl
def Mv {v:AV} (h:dc v=true):ET ct 1 [v]=some (.ptr ct 0,.cells true (aZ v&&true) true 1 [v]):=by
 simp [ET,cm,aG,h]
def bg {cs:List AV} {n:Nat} (hn:cs.length=n) (h:cm cs=true):ET ct n cs=some (.ptr ct 0,.cells true (aG cs) true n cs):=by
 subst hn;simp [ET,h]
def gU (hp:Hp) (ct id o sz:Nat) (new:List AV) (q:Option Obj):fJ:=
 match q with
 | some (.cells true pu ex z cs)=>bif yx new.length sz&&yF (o+sz) cs.length&&cm new then some (.ae [],bc hp id (.cells true (pu&&aG new) ex z (over o new cs)),ct) else none
 | _=>none
def stV (hp:Hp) (ct sz:Nat) (p:AV) (new:List AV):fJ:=match p with | .ptr id o=>gU hp ct id o sz new (aB hp id) | _=>none
def ace (sz:Nat) (x v:X):cI tm hp ct (.st sz x v)=stV hp ct sz (aE tm x) (cellsOf (aE tm v)):=rfl
def ahq (sz id o:Nat) (new:List AV):stV hp ct sz (.ptr id o) new=gU hp ct id o sz new (aB hp id):=rfl
def az8 {v u:AV} {id z:Nat} {pu ex:Bool} (h:dc v=true):gU hp ct id 0 1 [v] (some (.cells true pu ex z [u]))=some (.ae [],bc hp id (.cells true (pu&&(aZ v&&true)) ex z [v]),ct):=by
 simp [gU,cm,aG,h,over];rfl
def qQ {new cs:List AV} {id o sz z:Nat} {pu ex:Bool} (h1:new.length=sz) (h2:o+sz<=cs.length) (h:cm new=true):
  gU hp ct id o sz new (some (.cells true pu ex z cs))=some (.ae [],bc hp id (.cells true (pu&&aG new) ex z (over o new cs)),ct):=by
 subst h1;simp [gU,h,yt h2]
def Mw (ct n sz:Nat) (q:Option (List AV)):Option (AV×Obj):=match q with | some cs=>bif yx cs.length (n*sz) then some (.aC ct 0 n,.cells true (aG cs) true sz cs) else none | none=>none
def asQ (n sz:Nat) (z:List AV) (ps:List (Nat×Nat×X)):cO tm hp ct (.dT n sz z ps)=Mw ct n sz (fill tm z ps):=by
 simp only [cO,Mw];cases fill tm z ps<;>rfl
def asR {n sz:Nat} {cs:List AV} (h:cs.length=n*sz):Mw ct n sz (some cs)=some (.aC ct 0 n,.cells true (aG cs) true sz cs):=by
 simp [Mw,h]
def qR (tm:Env) (cs:List AV) (o sz:Nat) (new:List AV) (r:List (Nat×Nat×X)):Option (List AV):=
 bif yx new.length sz&&yF (o+sz) cs.length&&cm new then fill tm (over o new cs) r else none
def aqH (cs:List AV):fill tm cs []=some cs:=rfl
def aoG (cs:List AV) (o sz:Nat) (x:X) (r:List (Nat×Nat×X)):fill tm cs ((o,sz,x)::r)=qR tm cs o sz (cellsOf (aE tm x)) r:=rfl
def afF {cs:List AV} {o:Nat} {v:AV} {r:List (Nat×Nat×X)} (h1:o+1<=cs.length) (h2:dc v=true):qR tm cs o 1 [v] r=fill tm (over o [v] cs) r:=by
 simp [qR,cm,h2,yt h1]
def QU {cs new:List AV} {o sz:Nat} {r:List (Nat×Nat×X)} (h0:new.length=sz) (h1:o+sz<=cs.length) (h2:cm new=true):qR tm cs o sz new r=fill tm (over o new cs) r:=by
 subst h0;simp [qR,h2,yt h1]
def ayR (v u:AV) (r:List AV):over 0 [v] (u::r)=v::r:=rfl
def ayS (v a u:AV) (r:List AV):over 1 [v] (a::u::r)=a::v::r:=rfl
def ayT (v a b u:AV) (r:List AV):over 2 [v] (a::b::u::r)=a::b::v::r:=rfl
def ayU (v a b c u:AV) (r:List AV):over 3 [v] (a::b::c::u::r)=a::b::c::v::r:=rfl
def ayV (v a b c d u:AV) (r:List AV):over 4 [v] (a::b::c::d::u::r)=a::b::c::d::v::r:=rfl
def ayW (v a b c d e u:AV) (r:List AV):over 5 [v] (a::b::c::d::e::u::r)=a::b::c::d::e::v::r:=rfl
def oI (ct sz cB:Nat) (zero:List AV) (l c:Option Nat):Option (AV×Obj):=
 match l,c with
 | some l,some c=>bif yF l c&&(yF c room&&(yF (c*cB) room&&(yx zero.length sz&&cm zero))) then some (.aC ct 0 l,.cells true (aG zero) (yx l c) sz (yq l zero).flatten) else none
 | _,_=>none
def awA (sz cB:Nat) (z:List AV) (l c:X):cO tm hp ct (.fI sz cB z l c)=oI ct sz cB z (dl (aE tm l)) (dl (aE tm c)):=by
 simp only [cO,oI]
 grind
def Ag {sz cB l:Nat} {z:List AV} (h1:l<=1099511627776) (h2:l*cB<=1099511627776) (h3:z.length=sz) (h4:cm z=true):
  oI ct sz cB z (some l) (some l)=some (.aC ct 0 l,.cells true (aG z) true sz (yq l z).flatten):=by
 subst h3;simp [oI,h4,yt (show l<=room from h1),yt (show l*cB<=room from h2),yt (yo l)]
def Cy (hp:Hp) (ct sz cB:Nat) (s:AV) (src:Option (Nat×List AV)):fJ:=
 match src with
 | none=>none
 | some (m,new)=>
  match s with
  | .aa=>
   bif yx m 0 then some (.aa,hp,ct)
   else bif yF m room&&(yF (m*cB) room&&yP 0 sz) then some (.aC ct 0 m,(ct,.cells true (aG new) false sz new)::hp,ct+1) else none
  | .ai true n cs=>
   bif yx m 0 then some (.ai true n cs,hp,ct)
   else bif yF (n+m) room&&(yF ((n+m)*cB) room&&(yx cs.length (n*sz)&&yP 0 sz)) then some (.aC ct 0 (n+m),(ct,.cells true (aG cs&&aG new) false sz (cs++new))::hp,ct+1) else none
  | .aC id o n=>
   match aB hp id with
   | some (.cells true pu _ z cs)=>
    bif yx z sz&&(yF (n+m) room&&(yF ((n+m)*cB) room&&(yF (o+n*sz) cs.length&&(yP 0 sz&&cm new)))) then
     some (.aC ct 0 (n+m),(ct,.cells true (pu&&aG new) false sz (slice o (n*sz) cs++new))::dU hp id,ct+1)
    else none
   | _=>none
  | _=>none
def aoH (sz cB:Nat) (s x:X):cI tm hp ct (.aR sz cB s x)=Cy hp ct sz cB (aE tm s) (so hp sz (aE tm x)):=by
 simp only [cI,Cy]
 cases so hp sz (aE tm x) with
 | none=>rfl
 | some q=>obtain ⟨m,new⟩:=q;cases aE tm s<;>rfl
def ann (sz id o n:Nat):so hp sz (.aC id o n)=lE hp sz (.aC id o n):=rfl
def ano (sz:Nat) (e:Bool) (n:Nat) (cs:List AV):so hp sz (.ai e n cs)=lE hp sz (.ai e n cs):=rfl
def amN (sz:Nat):so hp sz .aa=some (0,[]):=rfl
def YL (o n sz:Nat) (q:Option Obj):Option (Nat×List AV):=match q with | some (.cells _ _ _ _ cs)=>bif yF (o+n*sz) cs.length then some (n,slice o (n*sz) cs) else none | _=>none
def amO (sz id o n:Nat):lE hp sz (.aC id o n)=YL o n sz (aB hp id):=rfl
def ayX (rw pu ex:Bool) (z:Nat) (v:AV):YL 0 1 1 (some (.cells rw pu ex z [v]))=some (1,[v]):=rfl
def im {sz cB:Nat} {new:List AV} {m:Nat} (hm:0<m) (h1:m<=1099511627776) (h2:m*cB<=1099511627776) (hs:0<sz):
  Cy hp ct sz cB .aa (some (m,new))=some (.aC ct 0 m,(ct,.cells true (aG new) false sz new)::hp,ct+1):=by
 have e1:yx m 0=false:=fY (by omega);have e2:yP 0 sz=true:=yt hs;simp [Cy,e1,e2,yt (show m<=room from h1),yt (show m*cB<=room from h2)]
def gY {sz cB id n m:Nat} {pu ex:Bool} {cs new:List AV} (hg:aB hp id=some (.cells true pu ex sz cs)) (hl:cs.length=n*sz) (h1:n+m<=1099511627776) (h2:(n+m)*cB<=1099511627776) (hs:0<sz) (ho:cm new=true):
  Cy hp ct sz cB (.aC id 0 n) (some (m,new))=some (.aC ct 0 (n+m),(ct,.cells true (pu&&aG new) false sz (cs++new))::dU hp id,ct+1):=by
 have e2:yP 0 sz=true:=yt hs;simp only [Cy,hg];simp [e2,ho,yt (show n+m<=room from h1),yt (show (n+m)*cB<=room from h2),<-hl,slice,yt (yo cs.length)]
def ai9 (n:Nat) (g:Nat) (cap:List AV) (q:Option (List AV×Hp)):Option (AV×Hp):=match q with | some (first,hp)=>(match cM n hp cap with | some (MF,kj)=>some (.fn (.f g) first MF,kj) | none=>none) | none=>none
def aja (g:Nat) (first:List AV) (q:Option (List AV×Hp)):Option (AV×Hp):=match q with | some (cap,hp)=>some (.fn (.f g) first cap,hp) | none=>none
def awB (n g:Nat) (first cap:List AV):freeze (n+1) hp (.fn (.f g) first cap)=ai9 n g cap (cM n hp first):=rfl
def awC (n g:Nat) (first cap:List AV):ai9 n g cap (some (first,hp))=aja g first (cM n hp cap):=rfl
def awD (g:Nat) (first cap:List AV):aja g first (some (cap,hp))=some (.fn (.f g) first cap,hp):=rfl
def ajb (o:Nat) (q:Option (Bool×Nat×List AV×Hp)):Option (AV×Hp):=match q with | some (_,_,cs,hp)=>some (.bZ (cs.drop o),hp) | none=>none
def asS (n id o:Nat):freeze (n+1) hp (.ptr id o)=ajb o (qc n hp id):=rfl
def awE (o:Nat) (ex:Bool) (sz:Nat) (cs:List AV):ajb o (some (ex,sz,cs,hp))=some (.bZ (cs.drop o),hp):=rfl
def jY (o k:Nat) (q:Option (Bool×Nat×List AV×Hp)):Option (AV×Hp):=
 match q with
 | some (ex,sz,cs,hp)=>bif yF (o+k*sz) cs.length then some (.ai (ex&&yP 0 sz&&yx (o+k*sz) cs.length) k (slice o (k*sz) cs),hp) else none
 | none=>none
def asT (n id o k:Nat):freeze (n+1) hp (.aC id o k)=jY o k (qc n hp id):=rfl
def nW {sz k:Nat} {cs:List AV} (ex:Bool) (hl:cs.length=k*sz) (hs:0<sz):jY 0 k (some (ex,sz,cs,hp))=some (.ai ex k cs,hp):=by
 have e2:yP 0 sz=true:=yt hs;simp [jY,<-hl,e2,slice,yt (yo cs.length)]
def W9 (n id:Nat) (hp:Hp) (q:Option Obj):Option (Bool×Nat×List AV×Hp):=
 match q with
 | some (.cells rw pu ex sz cs)=>
  bif pu then some (ex,sz,cs,bif rw then bc hp id (.cells false true ex sz cs) else hp)
  else match cM n hp cs with
   | some (dP,ap)=>some (ex,sz,dP,bc ap id (.cells false false ex sz cs))
   | none=>none
 | _=>none
def asU (n id:Nat):qc (n+1) hp id=W9 n id hp (aB hp id):=rfl
def awF (n id:Nat) (ex:Bool) (sz:Nat) (cs:List AV):W9 n id hp (some (.cells true true ex sz cs))=some (ex,sz,cs,bc hp id (.cells false true ex sz cs)):=rfl
def awG (n id:Nat) (ex:Bool) (sz:Nat) (cs:List AV):W9 n id hp (some (.cells false true ex sz cs))=some (ex,sz,cs,hp):=rfl
def cG (n:Nat) (cs:List AV) (h:cM n hp cs=some (cs,hp)):freeze (n+1) hp (.agg cs)=some (.agg cs,hp):=by
 simp only [freeze,h]
def By {id n sz:Nat} {ex:Bool} {cs:List AV} (hg:aB hp id=some (.cells true true ex sz cs)) (hl:cs.length=n*sz) (hs:0<sz):result hp (.aC id 0 n)=some (.bt ex sz n cs):=by
 have e2:yP 0 sz=true:=yt hs;simp only [result,od,hg,yg,<-hl,yt (yo cs.length),yB,e2,ue,slice,yH,xx]
 simp
def aoI {k id n sz:Nat} {ex:Bool} {cs:List AV} (hg:aB hp id=some (.cells true true ex sz cs)) (hl:cs.length=n*sz) (hs:0<sz):od k hp (.aC id 0 n)=some (.bt ex sz n cs,dU hp id):=by
 have e2:yP 0 sz=true:=yt hs;simp only [od,hg,yg,<-hl,yt (yo cs.length),yB,e2,ue,slice,yH,xx]
 simp
def amm {id n sz:Nat} {ex:Bool} {cs:List AV} {k:yY} {b:Int} (hg:aB hp id=some (.cells true true ex sz cs)) (hl:cs.length=n*sz) (hs:0<sz):result hp (.ae [.aC id 0 n,.int k b])=some (.ae [.bt ex sz n cs,.int k b]):=by
 have h1:DK [.aC id 0 n,.int k b]=some [id]:=rfl;simp only [result,h1,r9,aoI hg hl hs];rfl
def al9 (b:Bool):result hp (.ae [.aa,.bool b])=some (.ae [.aa,.bool b]):=rfl
def ama (k:yY) (b:Int):result hp (.ae [.aa,.int k b])=some (.ae [.aa,.int k b]):=rfl
def amb (e:Bool) (n:Nat) (cs:List AV) (k:yY) (b:Int):result hp (.ae [.ai e n cs,.int k b])=some (.ae [.ai e n cs,.int k b]):=rfl
def aoJ (s:St):ot [] s=some s:=rfl
def YM (t:Nat) (r:List Nat) (tm:Env) (ct base:Nat) (q:Option (AV×Hp)):Option St:=match q with | some (v,hp)=>ot r ⟨(t,v)::tm,hp,ct,base⟩ | none=>none
def anp (t:Nat) (r:List Nat) (tm:Env) (hp:Hp) (ct base:Nat):ot (t::r) ⟨tm,hp,ct,base⟩=YM t r tm ct base (freeze deep hp (aj tm t)):=by
 simp only [ot,YM];cases freeze deep hp (aj tm t)<;>rfl
def ayY (t:Nat) (r:List Nat) (tm:Env) (ct base:Nat) (v:AV) (hp:Hp):YM t r tm ct base (some (v,hp))=ot r ⟨(t,v)::tm,hp,ct,base⟩:=rfl
end
attribute [go_sem] al9 ama amb aoz ank aoA anl aoB aoC aoD aqD aoE afE aqE asL aqF asM asN asP awu aqG abo
 aoF anm awv aww ayQ az7 awx awy awz Mv ace ahq az8 asQ aqH aoG ayR ayS ayT ayU ayV ayW awA
 aoH ann ano amN amO ayX awB awC awD asS awE asT nW asR afF asU awF awG aoJ anp ayY
 Bool.and_false Bool.false_and yH eq_self
end
section
open Go (IntKind)
def acf:∀hp:Hp,iM 0 hp=[]
 | []=>rfl
 | (id,o)::r=>by
  have:yP id 0=false:=rfl
  simp only [iM,this,yS,acf r]
def agK (f:Nat->Option Nat):∀hp:Hp,lO 0 f hp=[]
 | []=>rfl
 | (id,o)::r=>by
  have:yP id 0=false:=rfl
  simp only [lO,this,yS,agK f r]
def pos (seen:List Nat):Nat->Option Nat:=fun id=>lS id seen 0
def Xa (tm:Env) (hp:Hp) (seen:List Nat):St:=⟨jV (pos seen) tm,jQ hp (pos seen) seen 0 [],seen.length,0⟩
def rM (hp:Hp):Nat->List Nat->List Nat->List Nat:=reach hp 0
def av (live:List Nat) (tm:Env) (hp:Hp) (ct:Nat):aQ live ⟨tm,hp,ct,0⟩=Xa (dN tm live) hp (rM hp 100000 (iR (dN tm live)) []):=by
 have e:∀seen,jP 0 seen=pos seen:=fun seen=>by
  funext id
  have:yP id 0=false:=rfl
  simp only [jP,this,yS,pos]
 simp only [aQ,acf,List.append_nil,e,agK,Xa,rM,yg]
def aoK:iR []=[]:=rfl
def anq (i:Nat) (v:AV) (r:Env):iR ((i,v)::r)=refs v++iR r:=rfl
def aqI (k:yY) (n:Int):refs (.int k n)=[]:=rfl
def aoL (b:Bool):refs (.bool b)=[]:=rfl
def aqJ (s:List Nat):refs (.str s)=[]:=rfl
def aoM:refs .aa=[]:=rfl
def aqK (e:Bool) (n:Nat) (cs:List AV):refs (.ai e n cs)=[]:=rfl
def aoN (cs:List AV):refs (.bZ cs)=[]:=rfl
def anr:refs .undef=[]:=rfl
def aqL (id o:Nat):refs (.ptr id o)=[id]:=rfl
def aqM (id o n:Nat):refs (.aC id o n)=[id]:=rfl
def asV (g:Nat) (a b:List AV):refs (.fn (.f g) a b)=iQ a++iQ b:=rfl
def awH (l:Nat) (a b:List AV):refs (.fn (.y l) a b)=[l]:=rfl
def aqN (cs:List AV):refs (.agg cs)=iQ cs:=rfl
def aoO:iQ []=[]:=rfl
def ans (v:AV) (r:List AV):iQ (v::r)=refs v++iQ r:=rfl
def N4 (hp:Hp) (n id:Nat) (iz seen:List Nat) (q:Option Obj):List Nat:=match q with | some o=>rM hp n (om o++iz) (seen++[id]) | none=>rM hp n iz seen
def N5 (hp:Hp) (n id:Nat) (iz seen:List Nat) (b:Bool):List Nat:=bif b then rM hp n iz seen else N4 hp n id iz seen (aB hp id)
def asW (hp:Hp) (n:Nat) (seen:List Nat):rM hp (n+1) [] seen=seen:=rfl
def aqO (hp:Hp) (n id:Nat) (iz seen:List Nat):rM hp (n+1) (id::iz) seen=N5 hp n id iz seen (kO id seen):=by
 have:yP id 0=false:=rfl
 simp only [rM,reach,this,Bool.false_or,N5,N4]
 cases kO id seen with
 | true=>rfl
 | false=>simp only [yS];cases aB hp id<;>rfl
def awI (hp:Hp) (n id:Nat) (iz seen:List Nat):N5 hp n id iz seen true=rM hp n iz seen:=rfl
def awJ (hp:Hp) (n id:Nat) (iz seen:List Nat):N5 hp n id iz seen false=N4 hp n id iz seen (aB hp id):=rfl
def awK (hp:Hp) (n id:Nat) (iz seen:List Nat) (o:Obj):N4 hp n id iz seen (some o)=rM hp n (om o++iz) (seen++[id]):=rfl
def aqP (i:Nat):kO i []=false:=rfl
def aqQ (i:Nat) (r:List Nat):kO i (i::r)=true:=by simp only [kO,vd,yB]
def aoP {i j:Nat} (r:List Nat) (h:j≠i):kO i (j::r)=kO i r:=by simp only [kO,fY h,yS]
def asX (rw ex:Bool) (sz:Nat) (cs:List AV):om (.cells rw true ex sz cs)=[]:=rfl
def asY (rw ex:Bool) (sz:Nat) (cs:List AV):om (.cells rw false ex sz cs)=iQ cs:=rfl
def aqR (tm:Env) (ps:List Nat) (a b:VC) (st:Nat) (pe:sN):om (.lp tm ps a b st pe)=iR tm:=rfl
def asZ (i:Nat) (r:List Nat) (k:Nat):lS i (i::r) k=some k:=by simp only [lS,vd,yB]
def aqS {i j:Nat} (r:List Nat) (k:Nat) (h:j≠i):lS i (j::r) k=lS i r (k+1):=by simp only [lS,fY h,yS]
def ahr (o:Nat) (q:Option Nat):AV:=match q with | some j=> .ptr j o | none=> .undef
def ahs (o n:Nat) (q:Option Nat):AV:=match q with | some j=> .aC j o n | none=> .undef
def aqT (s:List Nat):jV (pos s) []=[]:=rfl
def aoQ (s:List Nat) (i:Nat) (v:AV) (r:Env):jV (pos s) ((i,v)::r)=(i,b5 (pos s) v)::jV (pos s) r:=rfl
def as3 (s:List Nat) (k:yY) (n:Int):b5 (pos s) (.int k n)= .int k n:=rfl
def aqU (s:List Nat) (b:Bool):b5 (pos s) (.bool b)= .bool b:=rfl
def as4 (s:List Nat) (t:List Nat):b5 (pos s) (.str t)= .str t:=rfl
def aqV (s:List Nat):b5 (pos s) .aa= .aa:=rfl
def as5 (s:List Nat) (e:Bool) (n:Nat) (cs:List AV):b5 (pos s) (.ai e n cs)= .ai e n cs:=rfl
def aqW (s:List Nat) (cs:List AV):b5 (pos s) (.bZ cs)= .bZ cs:=rfl
def aoR (s:List Nat):b5 (pos s) .undef= .undef:=rfl
def as6 (s:List Nat) (id o:Nat):b5 (pos s) (.ptr id o)=ahr o (lS id s 0):=rfl
def as7 (s:List Nat) (id o n:Nat):b5 (pos s) (.aC id o n)=ahs o n (lS id s 0):=rfl
def awL (s:List Nat) (g:Nat) (a b:List AV):b5 (pos s) (.fn (.f g) a b)= .fn (.f g) (fq (pos s) a) (fq (pos s) b):=rfl
def as8 (s:List Nat) (cs:List AV):b5 (pos s) (.agg cs)= .agg (fq (pos s) cs):=rfl
def aqX (s:List Nat):fq (pos s) []=[]:=rfl
def aoS (s:List Nat) (v:AV) (r:List AV):fq (pos s) (v::r)=b5 (pos s) v::fq (pos s) r:=rfl
def as9 (o j:Nat):ahr o (some j)= .ptr j o:=rfl
def ata (o n j:Nat):ahs o n (some j)= .aC j o n:=rfl
def Xb (hp:Hp) (f:Nat->Option Nat) (r:List Nat) (k:Nat) (acc:Hp) (q:Option Obj):Hp:=match q with | some o=>jQ hp f r (k+1) ((k,kN f o)::acc) | none=>jQ hp f r (k+1) acc
def aoT (hp:Hp) (s:List Nat) (k:Nat) (acc:Hp):jQ hp (pos s) [] k acc=acc:=rfl
def ant (hp:Hp) (s:List Nat) (id:Nat) (r:List Nat) (k:Nat) (acc:Hp):jQ hp (pos s) (id::r) k acc=Xb hp (pos s) r k acc (aB hp id):=by
 simp only [jQ,Xb];cases aB hp id<;>rfl
def awM (hp:Hp) (s r:List Nat) (k:Nat) (acc:Hp) (o:Obj):Xb hp (pos s) r k acc (some o)=jQ hp (pos s) r (k+1) ((k,kN (pos s) o)::acc):=rfl
def awN (f:Nat->Option Nat) (rw ex:Bool) (sz:Nat) (cs:List AV):kN f (.cells rw true ex sz cs)= .cells rw true ex sz cs:=rfl
def awO (f:Nat->Option Nat) (rw ex:Bool) (sz:Nat) (cs:List AV):kN f (.cells rw false ex sz cs)= .cells rw false ex sz (fq f cs):=rfl
def atb (f:Nat->Option Nat) (tm:Env) (ps:List Nat) (a b:VC) (st:Nat) (pe:sN):kN f (.lp tm ps a b st pe)= .lp (jV f tm) ps a b st pe:=rfl
def atc (tm:Env) (hp:Hp) (seen:List Nat):Xa tm hp seen=⟨jV (pos seen) tm,jQ hp (pos seen) seen 0 [],seen.length,0⟩:=rfl
attribute [go_sem] aoK anq aqI aoL aqJ aoM aqK aoN anr aqL aqM asV awH aqN aoO ans asW aqO awI awJ awK
 aqP aqQ aoP asX asY aqR asZ aqS aqT aoQ as3 aqU as4 aqV as5 aqW aoR as6 as7 awL as8 aqX aoS as9 ata
 aoT ant awM awN awO atb atc yG yO
end
section
open Go (IntKind)
section
variable {P:aH} {L:Lib}
def Lb {k:yY} {n:Int} (h:0<=n):dl (.int k n)=some n.toNat:=by
 cases n with
 | ofNat n=>rfl
 | negSucc n=>exact absurd h (by simp)
end
end
section
open Go (IntKind)
section
variable {P:aH} {L:Lib}
def bY (k id o:Nat):Ih k (.ptr id o)=some (.ptr id (o+k)):=rfl
def cX {α:Type} (a:α) (l:List α):vZ 1 (a::l)=l:=rfl
def ayZ {α:Type} (a b:α) (l:List α):vZ 2 (a::b::l)=l:=rfl
def aht {α:Type} (a b c:α) (l:List α):vZ 3 (a::b::c::l)=l:=rfl
end
end
section
open Go (IntKind)
section
variable {P:aH} {L:Lib}
abbrev Nm (n:Int):AV:= .agg [ab n,.aa]
def qJ (hp:Hp) (ct id:Nat) (a:Int) (x y:AV):gU hp ct id 0 2 [.int .i64 a,.aa] (some (.cells true true true 2 [x,y]))=some (.ae [],bc hp id (.cells true true true 2 [.int .i64 a,.aa]),ct):=rfl
def ed (b:Bool):Ji false (some b)=some (.bool b):=by cases b<;>rfl
def agL (f:cy) (tm:Env) (hp:Hp) (ct:Nat) (x y:X):a8 P L f tm hp ct (.mn [x,y])=rd hp ct (min2 (aE tm x) (aE tm y)):=by
 simp only [a8,rd,bw,dj,Aj]
 grind
def H8 (f:cy) (tm:Env) (hp:Hp) (ct:Nat) (x y:X):a8 P L f tm hp ct (.mx [x,y])=rd hp ct (max2 (aE tm x) (aE tm y)):=by
 simp only [a8,rd,bw,dj,Aj]
 grind
def acg (k k':yY) (x y:Int):min2 (.int k x) (.int k' y)=some (.int k (if y<x then y else x)):=rfl
def Hg (k k':yY) (x y:Int):max2 (.int k x) (.int k' y)=some (.int k (if y>x then y else x)):=rfl
def db (n:Int):Int:=if n<0 then -1 else if n=0 then 0 else 1
def awP (n:Int):(if (if n<1 then n else 1)> -1 then (if n<1 then n else 1) else -1)=db n:=by
 unfold db
 grind
def n117 (h:Has P L 117 MP) (n:Int):ak P L 117 [ab n] (Nm n):=by
 unfold ak;rw [aI h];simp only [go_sem,ya,yb,Nat.reduceLeDiff,MP,bg,yg,qJ];rfl
def oA (hp:Hp) (p q:Bool):jj .b (.bool p) (.bool q)=some (p==q):=rfl
end
end
section
open Go (IntKind)
section
variable {P:aH} {L:Lib}
def iL {n:Nat} {sp:List AV->Option AV} (h:L.pure n=some sp) {f:cy} (aq:List AV):bH P L f n aq=sp aq:=by simp only [bH,h]
abbrev U64 (n:Int):AV:= .int .u64 n
def ay0 {n:Int} (h1:0<=n) (h2:n<18446744073709551616):IntKind.wrap .u64 n=n:=by
 simp only [IntKind.wrap,IntKind.signed,IntKind.bits]
 grind
def agM (n:Int):oB (.toInt .u64) (ab n)=some (U64 (IntKind.wrap .u64 n)):=rfl
def Ma (n:Int):oB (.toInt .i64) (U64 n)=some (ab (IntKind.wrap .i64 n)):=rfl
def H9 (b:Bool):Ji true (some b)=some (.bool (!b)):=by cases b<;>rfl
def cd (a b:AV) (r:List AV):gP 2 true (a::b::r)=some (.agg [a,b]):=rfl
def iT (a b c d:AV) (r:List AV):gP 4 true (a::b::c::d::r)=some (.agg [a,b,c,d]):=rfl
def aoU {a b:Int} (hb:0<b):(a.tmod b<0->a/b=a.tdiv b-1/\a%b=a.tmod b+b)/\(¬a.tmod b<0->a/b=a.tdiv b/\a%b=a.tmod b):=by
 have h1:=Int.mul_tdiv_add_tmod a b;have h2:a.tmod b<b:=Int.tmod_lt_of_pos a hb;have h3: -b<a.tmod b:=Int.lt_tmod_of_pos a hb;refine ⟨fun h=>(uU hb).2 ⟨?_,?_,?_⟩,fun h=>(uU hb).2 ⟨?_,?_,?_⟩⟩
 ·grind
 ·omega
 ·omega
 ·omega
 ·omega
 ·omega
def aqY (a b:Nat) (hb:b≠0):wz b (a%b)=wz a b:=by
 rw [uI b,<-ybM,uI]
end
end
section
def df (a b:Int):Int:=a/(wO a b:Nat)
def dn (a b:Int):Int:=b/(wO a b:Nat)
def LM {a b:Int} (hb:0<b):(0:Int)<(wO a b:Nat):=by
 have:=Int.gcd_pos_of_ne_zero_right a (show b≠0 by omega)
 omega
def awQ (a b:Int):a=(wO a b:Nat)*df a b:=(tY (uZ a b)).symm
def awR (a b:Int):b=(wO a b:Nat)*dn a b:=(tY (uQ a b)).symm
def Hh {a b:Int} (hb:0<b):0<dn a b:=by
 have h1:=LM (a:=a) hb;have h2:=awR a b;rcases Int.lt_trichotomy (dn a b) 0 with h | h | h
 ·have:=Int.mul_neg_of_pos_of_neg h1 h;omega
 ·grind
 ·exact h
def ach (a b:Int):(df a b).natAbs<=a.natAbs:=by
 unfold df;rw [ua (uZ a b)];exact vh _ _
def aci (a b:Int):(dn a b).natAbs<=b.natAbs:=by
 unfold dn;rw [ua (uQ a b)];exact vh _ _
def oJ (a b:Int):List Nat:=if dn a b=1 then aU (df a b) else aU (df a b)++[47]++aU (dn a b)
end
section
def ahu {a b:Nat} (h:¬a<b):yP a b=false:=by
 cases hb:yP a b with
 | false=>rfl
 | true=>exact absurd (yA hb) (by omega)
def QV:∀(f n:Nat) (acc:List Nat),n<f->mu f n acc=mu f n []++acc
 | 0,_,_,h=>by omega
 | f+1,n,acc,h=>by
  simp only [mu];by_cases h1:n<10
  ·rw [show yP n 10=true from yt h1];rfl
  ·rw [show yP n 10=false from ahu (by omega)];rw [QV f (n/10) _ (by omega),QV f (n/10) [48+n%10] (by omega)]
   simp
def Qd {f n:Nat} (h:n<10):mu (f+1) n []=[48+n]:=by
 simp only [mu];rw [show yP n 10=true from yt h];rfl
def QW {f n:Nat} (h:¬n<10) (hf:n<=f):mu (f+1) n []=mu f (n/10) []++[48+n%10]:=by
 rw [<-QV f (n/10) _ (by omega)];simp only [mu];rw [show yP n 10=false from ahu (by omega)];rfl
def aqZ:∀(n f:Nat),n<f->mu f n []=aw n:=by
 intro n
 induction n using ud with
 | _ n ih=>
  intro f hf;obtain ⟨g,rfl⟩:∃g,f=g+1:=⟨f-1,by omega⟩;by_cases h:n<10
  ·rw [Qd h];unfold aw;rw [Qd h]
  ·rw [QW h (by omega),ih (n/10) (by omega) g (by omega)];unfold aw;rw [QW h (yo n),ih (n/10) (by omega) n (by omega)];rfl
def mX {n:Nat} (h:n<10):aw n=[48+n]:=Qd h
def nX {n:Nat} (h:¬n<10):aw n=aw (n/10)++[48+n%10]:=by
 rw [show aw n=mu (n+1) n [] from rfl,QW h (yo n),aqZ (n/10) n (by omega)]
def qw:∀{k n:Nat},n<10^(k+1)->(aw n).length<=k+1
 | 0,n,h=>by rw [mX (by simpa using h)];simp
 | k+1,n,h=>by
  by_cases h1:n<10
  ·rw [mX h1];simp
  ·rw [nX h1,yL]
   have:n/10<10^(k+1):=by
    grind
   have:=qw this
   grind
def KY {n:Nat} (h:n<18446744073709551616):(aw n).length<=20:=qw (k:=19) (by omega)
def jL (n:Nat):aU (n:Int)=aw n:=rfl
def lC {n:Int} (h:n<0):aU n=45::aw n.natAbs:=by
 cases n with
 | ofNat n=>exact absurd h (by simp)
 | negSucc n=>rfl
def bU:List Nat->Nat
 | []=>0
 | b::r=>if b=47 then 0 else bU r+1
def amP {s:List Nat} {i:Nat} (h:i<s.length):bU (s.drop i)=if s[i]=47 then 0 else bU (s.drop (i+1))+1:=by
 rw [yX h];rfl
def G8:∀s:List Nat,bU s<=s.length
 | []=>yo _
 | b::r=>by
  unfold bU
  have:=G8 r
  grind
def cZ:List Nat->Bool
 | []=>true
 | b::r=>yF 48 b&&yF b 57&&cZ r
def KK:∀(a b:List Nat),cZ (a++b)=(cZ a&&cZ b)
 | [],b=>by simp [cZ]
 | x::a,b=>by simp [cZ,KK a b,Bool.and_assoc]
def zR (n:Nat):cZ (aw n)=true:=by
 induction n using ud with
 | _ n ih=>
  by_cases h:n<10
  ·rw [mX h];simp [cZ];omega
  ·rw [nX h,KK,ih (n/10) (by omega)];simp [cZ];omega
def GQ:∀{s:List Nat} (r:List Nat),cZ s=true->bU (s++r)=s.length+bU r
 | [],r,_=>by simp
 | b::s,r,h=>by
  simp only [cZ,ye] at h;have h1:=yA h.1.1;simp only [xh,bU,yG];rw [yr (by omega),GQ r h.2];omega
def KL:∀(l:List Nat) (a d:Nat),d<10->cN (l++[48+d]) a=(cN l a).map (fun v=>10*v+d)
 | [],a,d,h=>by
  simp only [List.nil_append,cN];rw [show yF 48 (48+d)=true from yt (by omega),show yF (48+d) 57=true from yt (by omega)]
  simp
 | b::l,a,d,h=>by
  simp only [xh,cN]
  cases (yF 48 b&&yF b 57) with
  | true=>exact KL l _ d h
  | false=>rfl
def qj (n:Nat):cN (aw n) 0=some n:=by
 induction n using ud with
 | _ n ih=>
  by_cases h:n<10
  ·rw [mX h]
   have:=KL [] 0 n h
   simpa [cN] using this
  ·rw [nX h,KL _ _ _ (by omega),ih (n/10) (by omega)]
   simp;omega
def aoV {s:List Nat} {i a v:Nat} (h:i<s.length) (hv:cN (s.drop i) a=some v):48<=s[i]/\s[i]<=57/\cN (s.drop (i+1)) (10*a+(s[i]-48))=some v:=by
 rw [yX h] at hv;simp only [cN] at hv
 cases hb:(yF 48 s[i]&&yF s[i] 57) with
 | false=>rw [hb] at hv;cases hv
 | true=>
  simp_all
def ib:Nat->Nat->List Nat
 | 0,_=>[]
 | k+1,n=>ib k (n/10)++[48+n%10]
def Qy:∀k n,(ib k n).length=k
 | 0,_=>rfl
 | k+1,n=>by simp [ib,Qy k]
def Lp:∀(k m r:Nat),0<m->r<10^k->aw (m*10^k+r)=aw m++ib k r
 | 0,m,r,_,h=>by simp at h;subst h;simp [ib]
 | k+1,m,r,hm,h=>by
  have h1:m*10^(k+1)+r=(m*10^k)*10+r:=by grind
  have hp:0<m*10^k:=Nat.mul_pos hm (Nat.pow_pos (by decide));have e1:(m*10^(k+1)+r)/10=m*10^k+r/10:=by omega
  have e2:(m*10^(k+1)+r)%10=r%10:=by omega
  rw [nX (by omega),e1,e2,Lp k m (r/10) hm (by rw [xc] at h;omega)];simp [ib]
def acj:∀(k r a:Nat),r<10^k->cN (ib k r) a=some (a*10^k+r)
 | 0,r,a,h=>by simp at h;subst h;simp [ib,cN]
 | k+1,r,a,h=>by
  rw [ib,KL _ _ _ (xp _ (by decide)),acj k (r/10) a (by omega)];simp only [Option.map_some,yd,xc]
  grind
def aq0 {m:Nat} (h:1000000000<=m):aw m=aw (m/1000000000)++ib 9 (m%1000000000):=by
 have:=Lp 9 (m/1000000000) (m%1000000000) (by omega) (by omega)
 grind
end
section
open Go (IntKind)
def ic (s:List Nat) (l h:Option Nat):Option AV:=
 match l,h with
 | some l,some h=>bif yF l h&&yF h s.length then some (.str ((s.take h).drop l)) else none
 | _,_=>none
def eG (hp:Hp) (s:List Nat) (tm:Env) (lo hi:Option X):eV hp .str (.str s) tm lo hi=ic s (cW tm 0 lo) (cW tm s.length hi):=by
 unfold ic;simp only [eV]
 grind
def eU (tm:Env) (d:Nat):cW tm d none=some d:=rfl
def dD (tm:Env) (d:Nat) (x:X):cW tm d (some x)=dl (aE tm x):=rfl
def lF {s:List Nat} {l h:Nat} (h1:l<=h) (h2:h<=s.length):ic s (some l) (some h)=some (.str ((s.take h).drop l)):=by
 simp [ic,yt h1,yt h2]
def fZ {a b:List Nat} (h:a.length+b.length<=9223372036854775807):binOp .add (.str a) (.str b)=some (.str (a++b)):=by
 show Ig .add a b=_
 simp only [Ig,yt h,yB]
def atd (k:yY) (n:Int):oB (.toInt .i64) (.int k n)=some (ab (IntKind.wrap .i64 n)):=rfl
def jN (a b:List Nat):binOp .eql (.str a) (.str b)=some (.bool (cU a b)):=rfl
def pH {s:List Nat} {i:Nat} (h:i<s.length):mz i (.str s)=some (.int .u8 (s[i]:Nat)):=by
 simp only [mz,yK h]
def aaG {r:Nat} (h:r<10):ic [48,49,50,51,52,53,54,55,56,57] (some r) (some (r+1))=some (.str [48+r]):=by
 have:r=0\/r=1\/r=2\/r=3\/r=4\/r=5\/r=6\/r=7\/r=8\/r=9:=by omega
 rcases this with rfl | rfl | rfl | rfl | rfl | rfl | rfl | rfl | rfl | rfl<;>rfl
section
variable {P:aH} {L:Lib}
def Xc (h:Has P L 292 sQ) {n:Nat} (hn:n<9223372036854775808):ak P L 292 [ab n,ab 1] (.str (aw n)):=by
 have key:=fN (P:=P) (L:=L) (live:=[0,1,5]) (a:=nh)
  (I:=fun k st=>∃(m:Nat) (s:List Nat),st=⟨[(0,ab m),(1,ab 1),(5,.str s)],[],0,0⟩/\m<=n/\m+(1-s.length)=k/\s.length<=20/\((s=[]/\m=n)\/(0<s.length/\(m=0->s=aw n)/\(0<m->aw n=aw m++s))))
  (Q:=fun ex st=>∃tm ct,st=⟨tm,[],ct,0⟩/\ex= .exit 0/\aj tm 5= .str (aw n)) ?_
 ·unfold ak;rw [aI h];simp only [go_sem,sQ];generalize hq:D P L (.loop [0,1,5] nh) _=q;obtain ⟨ex,st,rfl,tm,ct,rfl,rfl,h2⟩:=bI hq (key (n+1)) ⟨n,[],by simp only [go_sem,ya,av]<;>rfl,by omega,rfl,by simp,.inl ⟨rfl,rfl⟩⟩
  simp only [go_sem,av,h2]
 ·rintro k st ⟨m,s,rfl,hm,hk,hl,hs⟩;by_cases rN:0<m\/s.length<1
  ·left
   have hc:((decide ((0:Int)<m))=true)\/((decide ((0:Int)<m))=false/\((s.length:Nat):Int)<1):=by
    by_cases h0:0<m
    ·exact .inl (xi (by omega))
    ·exact .inr ⟨y7 (by omega),by omega⟩
   have hr:((m:Int)).tmod 10=((m%10:Nat):Int):=by rw [xX (by omega)];rfl
   have hq:((m:Int)).tdiv 10=((m/10:Nat):Int):=by rw [Int.tdiv_eq_ediv_of_nonneg (by omega)];rfl
   have hd:=aaG (r:=m%10) (by omega);have fin:∃s' k',D P L nh ⟨[(0,ab m),(1,ab 1),(5,.str s)],[],0,0⟩=some (.normal,s')/\k'<k/\aQ [0,1,5] s'=⟨[(0,ab (m/10:Nat)),(1,ab 1),(5,.str ([48+m%10]++s))],[],0,0⟩/\m/10+(1-([48+m%10]++s).length)=k':=by
    rcases hc with hc | ⟨hc,rI⟩
    ·have hc:(0:Int)<m:=of_decide_eq_true hc
     simp only [go_sem,ya,yb,nh,hc,iq _ _ _ (show (10:Int)≠0 by decide),fO _ _ _ (show (10:Int)≠0 by decide),hr,hq,wrapN (n:=m%10+1) (by omega),wrap64 (n:=((m/10:Nat):Int)) (by omega) (by omega),eG,dD,show ((m%10:Nat):Int)+1=((m%10+1:Nat):Int) from rfl,hd,fZ (a:=[48+m%10]) (b:=s) (by simp;omega)];refine ⟨_,_,rfl,?_,by simp only [go_sem,ya,av],rfl⟩
     simp;omega
    ·have hc:¬(0:Int)<m:=of_decide_eq_false hc
     simp only [go_sem,ya,yb,nh,hc,rI,iq _ _ _ (show (10:Int)≠0 by decide),fO _ _ _ (show (10:Int)≠0 by decide),hr,hq,wrapN (n:=m%10+1) (by omega),wrap64 (n:=((m/10:Nat):Int)) (by omega) (by omega),eG,dD,show ((m%10:Nat):Int)+1=((m%10+1:Nat):Int) from rfl,hd,fZ (a:=[48+m%10]) (b:=s) (by simp;omega)];refine ⟨_,_,rfl,?_,by simp only [go_sem,ya,av],rfl⟩
     simp;omega
   obtain ⟨s',k',f1,f2,f3,f4⟩:=fin;refine ⟨s',k',f1,f2,m/10,[48+m%10]++s,f3,by omega,f4,?_,.inr ⟨by simp,fun h0=>?_,fun h0=>?_⟩⟩
   ·have aHc:=KY (n:=n) (by omega);rcases hs with ⟨rfl,rfl⟩ | ⟨h1,h2,h3⟩
    ·simp
    ·by_cases h0:0<m
     ·have e:=congrArg List.length (h3 h0);have e2:0<(aw m).length:=by
       by_cases h9:m<10
       ·rw [mX h9];simp
       ·rw [nX h9];simp
      simp only [yL] at e
      simp;omega
     ·omega
   ·have h9:m<10:=by omega
    rcases hs with ⟨rfl,rfl⟩ | ⟨h1,h2,h3⟩
    ·rw [mX h9,yU h9];rfl
    ·have:0<m:=by omega
     rw [h3 this,mX h9,yU h9]
   ·have h9:¬m<10:=by omega
    rcases hs with ⟨rfl,rfl⟩ | ⟨h1,h2,h3⟩
    ·rw [nX h9];simp
    ·rw [h3 (by omega),nX h9];simp
  ·right
   simp only [go_sem,ya,nh,show ¬(0:Int)<m by omega,show ¬((s.length:Nat):Int)<1 by omega];refine ⟨_,_,rfl,by simp,_,_,rfl,rfl,?_⟩;simp only [go_sem,ya];rcases hs with ⟨rfl,rfl⟩ | ⟨h1,h2,h3⟩
   ·simp at rN
   ·rw [h2 (by omega)]
def az9 (h:Has P L 291 IW) {a b:Nat} (ha:a<9223372036854775808) (hb:b<9223372036854775808):ak P L 291 [ab a,ab b] (ab (wz a b)):=by
 have key:=fN (P:=P) (L:=L) (live:=[0,1]) (a:=HX)
  (I:=fun k st=>∃x y:Nat,st=⟨[(0,ab x),(1,ab y)],[],0,0⟩/\y=k/\wz x y=wz a b)
  (Q:=fun ex st=>∃tm ct,st=⟨tm,[],ct,0⟩/\ex= .exit 0/\aj tm 0=ab (wz a b)) ?_
 ·unfold ak;rw [aI h];simp only [go_sem,IW];generalize hq:D P L (.loop [0,1] HX) _=q;obtain ⟨ex,st,rfl,tm,ct,rfl,rfl,h2⟩:=bI hq (key b) ⟨a,b,by simp only [go_sem,ya,av]<;>rfl,rfl,rfl⟩
  simp only [go_sem,av,h2]
 ·rintro k st ⟨x,y,rfl,rfl,hg⟩;by_cases hy:y=0
  ·right
   subst hy;simp only [go_sem,ya,HX,show ¬(0:Int)<((0:Nat):Int) by omega];refine ⟨_,_,rfl,by simp,_,_,rfl,rfl,?_⟩;simp only [go_sem,ya];rw [<-hg,Nat.gcd_zero_right]
  ·left
   have hr:((x:Int)).tmod y=((x%y:Nat):Int):=by rw [xX (by omega)];rfl
   simp only [go_sem,ya,HX,show (0:Int)<y by omega,iq _ _ _ (show (y:Int)≠0 by omega),hr];refine ⟨_,x%y,rfl,xp _ (by omega),y,x%y,by simp only [go_sem,ya,av],rfl,?_⟩;rw [<-hg,uI y,<-ybM,uI]
end
end
section
open Go (IntKind)
section
variable {P:aH} {L:Lib}
def EU (h:Has P L 272 IT) {s:List Nat} (hl:s.length<9223372036854775808):ak P L 272 [.str s] (ab (bU s)):=by
 have key:=fN (P:=P) (L:=L) (live:=[0,3]) (a:=DZ)
  (I:=fun k st=>∃i:Nat,st=⟨[(0,.str s),(3,ab i)],[],0,0⟩/\i+k=s.length/\i+bU (s.drop i)=bU s)
  (Q:=fun ex st=>∃tm ct,st=⟨tm,[],ct,0⟩/\((ex= .ret/\aj tm 2=ab (bU s))\/(ex= .exit 0/\aj tm 0= .str s/\bU s=s.length))) ?_
 ·unfold ak;rw [aI h];simp only [go_sem,IT];generalize hq:D P L (.loop [0,3] DZ) _=q;obtain ⟨ex,st,rfl,tm,ct,rfl,h2⟩:=bI hq (key s.length) ⟨0,by simp only [go_sem,ya,av]<;>rfl,by omega,by simp⟩
  rcases h2 with ⟨rfl,h2⟩ | ⟨rfl,h2,h3⟩
  ·simp only [go_sem,h2]
  ·simp only [go_sem,av,h2,h3]
 ·rintro k st ⟨i,rfl,hk,hs⟩;by_cases hi:i<s.length
  ·rw [amP hi] at hs;by_cases h7:s[i]=47
   ·right
    rw [yE h7] at hs;simp only [go_sem,ya,DZ,show (i:Int)<s.length by omega,pH hi,show ((s[i]:Nat):Int)=47 by omega];refine ⟨_,_,rfl,by simp,_,_,rfl,.inl ⟨rfl,?_⟩⟩;simp only [go_sem];rw [<-hs];rfl
   ·left
    rw [yr h7] at hs;simp only [go_sem,ya,DZ,show (i:Int)<s.length by omega,pH hi,show ¬((s[i]:Nat):Int)=47 by omega];refine ⟨_,k-1,rfl,by omega,i+1,?_,by omega,by omega⟩;rw [wrap64 (by omega) (by omega)];simp only [go_sem,ya,av]<;>rfl
  ·right
   simp only [go_sem,ya,DZ,show ¬(i:Int)<s.length by omega];refine ⟨_,_,rfl,by simp,_,_,rfl,.inr ⟨rfl,by simp only [go_sem,ya],?_⟩⟩;rw [xj (by omega)] at hs;simp only [bU] at hs;omega
def Jl (h:Has P L 290 Eu) {s:List Nat} {v:Nat} (hl:s.length<=18) (hv:cN s 0=some v):ak P L 290 [.str s] (ab v):=by
 have key:=fN (P:=P) (L:=L) (live:=[0,3,4]) (a:=HW)
  (I:=fun k st=>∃i a:Nat,st=⟨[(0,.str s),(3,ab a),(4,ab i)],[],0,0⟩/\i+k=s.length/\a<10^i/\cN (s.drop i) a=some v)
  (Q:=fun ex st=>∃tm ct,st=⟨tm,[],ct,0⟩/\ex= .exit 0/\aj tm 3=ab v) ?_
 ·unfold ak;rw [aI h];simp only [go_sem,Eu];generalize hq:D P L (.loop [0,3,4] HW) _=q;obtain ⟨ex,st,rfl,tm,ct,rfl,rfl,h2⟩:=bI hq (key s.length) ⟨0,0,by simp only [go_sem,ya,av]<;>rfl,by omega,by simp,hv⟩
  simp only [go_sem,av,h2]
 ·rintro k st ⟨i,a,rfl,hk,ha,hs⟩;by_cases hi:i<s.length
  ·left
   obtain ⟨h1,h2,h3⟩:=aoV hi hs;have hp:10^i<=10^17:=xb (by decide) (by omega);have hb:IntKind.wrap .i64 ((s[i]:Nat):Int)=((s[i]:Nat):Int):=wrap64 (by omega) (by omega)
   simp only [go_sem,ya,HW,show (i:Int)<s.length by omega,pH hi,atd,hb,wrap64 (n:=10*(a:Int)) (by omega) (by omega),wrap64 (n:=10*(a:Int)+(s[i]:Nat)) (by omega) (by omega),wrap64 (n:=10*(a:Int)+(s[i]:Nat)-48) (by omega) (by omega)];refine ⟨_,k-1,rfl,by omega,i+1,10*a+(s[i]-48),?_,by omega,?_,h3⟩
   ·rw [wrap64 (by omega) (by omega),show 10*(a:Int)+(s[i]:Nat)-48=((10*a+(s[i]-48):Nat):Int) by omega];simp only [go_sem,ya,av]<;>rfl
   ·rw [xc];omega
  ·right
   simp only [go_sem,ya,HW,show ¬(i:Int)<s.length by omega];refine ⟨_,_,rfl,by simp,_,_,rfl,rfl,?_⟩;rw [xj (by omega)] at hs;simp only [cN,yd] at hs;subst hs;simp only [go_sem,ya]
def LO (a:Int):(if 0-a>a then 0-a else a)=(a.natAbs:Int):=by omega
def Lq (a b:Int):a.tdiv (wO a b:Nat)=df a b:=tE (uZ a b)
def Lr (a b:Int):b.tdiv (wO a b:Nat)=dn a b:=tE (uQ a b)
def mY (n:Int):(if n<0 then [45] else [])++aw n.natAbs=aU n:=by
 split
 ·rename_i h;rw [lC h];rfl
 ·rename_i h;obtain ⟨m,rfl⟩:∃m:Nat,n=m:=⟨n.toNat,by omega⟩;rfl
def aq1 {n:Int} (h:n.natAbs<18446744073709551616):(aU n).length<=21:=by
 rw [<-mY]
 have:=KY h
 grind
def ate {a b:Int} (hb:0<b):oJ a b=(if 1<dn a b then (aU (df a b)++[47])++aw (dn a b).natAbs else aU (df a b)):=by
 have h:=Hh (a:=a) hb;unfold oJ;by_cases h1:dn a b=1
 ·grind
 ·rw [yr h1,yE (by omega)];obtain ⟨m,hm⟩:∃m:Nat,dn a b=m:=⟨(dn a b).toNat,by omega⟩;rw [hm];rfl
def aAa (h:Has P L 277 Cs) (Xd:Has P L 291 IW) (pT:Has P L 292 sQ) {a b:Int} (ha: -4000000000000000000<=a/\a<=4000000000000000000) (hb:0<b/\b<=4000000000000000000):
  ak P L 277 [ab a,ab b] (.str (oJ a b)):=by
 have hn:=ach a b;have hd:=aci a b;have hp:=Hh (a:=a) hb.1;have e1:=az9 Xd (a:=a.natAbs) (b:=b.natAbs) (by omega) (by omega);have e2:=Xc pT (n:=(df a b).natAbs) (by omega);have e3:=Xc pT (n:=(dn a b).natAbs) (by omega);have hg:=LM (a:=a) hb.1;rw [show ((b.natAbs:Nat):Int)=b by omega,show wz a.natAbs b.natAbs=wO a b from rfl] at e1;rw [show (((dn a b).natAbs:Nat):Int)=dn a b by omega] at e3;have mO:=aq1 (n:=df a b) (by omega);have nE:=KY (n:=(df a b).natAbs) (by omega);have YN:=KY (n:=(dn a b).natAbs) (by omega);have hT:=ate (a:=a) hb.1;have hS:=mY (df a b);unfold ak at e1 e2 e3 ⊢;rw [aI h];by_cases h0:df a b<0
 ·rw [yE h0] at hS;by_cases h1:1<dn a b
  ·rw [yE h1] at hT
   simp only [go_sem,ya,Cs,show ¬a< -4000000000000000000 by omega,show ¬4000000000000000000<a by omega,show ¬b< -4000000000000000000 by omega,show ¬4000000000000000000<b by omega,show ¬b<0 by omega,wrap64 (n:=0-a) (by omega) (by omega),H8,Hg,LO,e1,fO _ _ _ (show ((wO a b:Nat):Int)≠0 by omega),Lq,Lr,wrap64 (n:=df a b) (by omega) (by omega),wrap64 (n:=dn a b) (by omega) (by omega),h0,wrap64 (n:=0-df a b) (by omega) (by omega),e2,fZ (a:=[45]) (b:=aw (df a b).natAbs) (by simp;omega),hS,h1,fZ (a:=aU (df a b)) (b:=[47]) (by simp;omega),e3,fZ (a:=aU (df a b)++[47]) (b:=aw (dn a b).natAbs) (by simp;omega),hT]
  ·rw [yr h1] at hT
   simp only [go_sem,ya,Cs,show ¬a< -4000000000000000000 by omega,show ¬4000000000000000000<a by omega,show ¬b< -4000000000000000000 by omega,show ¬4000000000000000000<b by omega,show ¬b<0 by omega,wrap64 (n:=0-a) (by omega) (by omega),H8,Hg,LO,e1,fO _ _ _ (show ((wO a b:Nat):Int)≠0 by omega),Lq,Lr,wrap64 (n:=df a b) (by omega) (by omega),wrap64 (n:=dn a b) (by omega) (by omega),h0,wrap64 (n:=0-df a b) (by omega) (by omega),e2,fZ (a:=[45]) (b:=aw (df a b).natAbs) (by simp;omega),hS,h1,hT]
 ·rw [yr h0] at hS;by_cases h1:1<dn a b
  ·rw [yE h1] at hT
   simp only [go_sem,ya,Cs,show ¬a< -4000000000000000000 by omega,show ¬4000000000000000000<a by omega,show ¬b< -4000000000000000000 by omega,show ¬4000000000000000000<b by omega,show ¬b<0 by omega,wrap64 (n:=0-a) (by omega) (by omega),H8,Hg,LO,e1,fO _ _ _ (show ((wO a b:Nat):Int)≠0 by omega),Lq,Lr,wrap64 (n:=df a b) (by omega) (by omega),wrap64 (n:=dn a b) (by omega) (by omega),h0,wrap64 (n:=0-df a b) (by omega) (by omega),e2,fZ (a:=[]) (b:=aw (df a b).natAbs) (by simp;omega),hS,h1,fZ (a:=aU (df a b)) (b:=[47]) (by simp;omega),e3,fZ (a:=aU (df a b)++[47]) (b:=aw (dn a b).natAbs) (by simp;omega),hT]
  ·rw [yr h1] at hT
   simp only [go_sem,ya,Cs,show ¬a< -4000000000000000000 by omega,show ¬4000000000000000000<a by omega,show ¬b< -4000000000000000000 by omega,show ¬4000000000000000000<b by omega,show ¬b<0 by omega,wrap64 (n:=0-a) (by omega) (by omega),H8,Hg,LO,e1,fO _ _ _ (show ((wO a b:Nat):Int)≠0 by omega),Lq,Lr,wrap64 (n:=df a b) (by omega) (by omega),wrap64 (n:=dn a b) (by omega) (by omega),h0,wrap64 (n:=0-df a b) (by omega) (by omega),e2,fZ (a:=[]) (b:=aw (df a b).natAbs) (by simp;omega),hS,h1,hT]
end
end
section
open Go (IntKind)
def TT (n:Int) (d:Nat):List Nat:=aU n++(if d=1 then [] else 47::aw d)
def atf {a b:Int} (hb:0<b):oJ a b=TT (df a b) (dn a b).toNat:=by
 have h:=Hh (a:=a) hb;unfold oJ TT;by_cases h1:dn a b=1
 ·grind
 ·rw [yr h1,yr (by omega)];obtain ⟨m,hm⟩:∃m:Nat,dn a b=m:=⟨(dn a b).toNat,by omega⟩;rw [hm,List.append_assoc];rfl
def qB (n:Nat):0<(aw n).length:=by
 by_cases h:n<10
 ·rw [mX h];simp
 ·rw [nX h];simp
def Hy:∀(n:Nat),n<10^(aw n).length:=by
 intro n
 induction n using ud with
 | _ n ih=>
  by_cases h:n<10
  ·rw [mX h];simpa using h
  ·have:=ih (n/10) (by omega)
   rw [nX h,yL,List.length_singleton,xc];omega
def ack {n:Nat} (h:(aw n).length<=9):n<1000000000:=
 Nat.lt_of_lt_of_le (Hy n) (by simpa using xb (show 0<10 by decide) h)
def Du (n:Nat):∃b r,aw n=b::r/\48<=b/\b<=57:=by
 cases hq:aw n with
 | nil=>have:=qB n;rw [hq] at this;simp at this
 | cons b r=>
  have:=zR n
  rw [hq] at this;simp only [cZ,ye] at this
  simp_all
section
variable {P:aH} {L:Lib}
def Cz (s:List Nat):mz 0 (.str (45::s))=some (.int .u8 45):=rfl
def Ry (q:Bool) (n:Int) (d:Nat):AV:=if q=true then .ae [ab n,ab d,.bool true] else .ae [ab 0,ab 0,.bool false]
def iU (d:Nat):List Nat:=if d=1 then [] else 47::aw d
def aaH (d:Nat):bU (iU d)=0:=by unfold iU;split<;>rfl
def aAb (h:Has P L 276 oF) (AF:Has P L 272 IT) (sZ:Has P L 290 Eu) {n:Int} {d:Nat} (hl:(TT n d).length<=20000000000):
  ∃q:Bool,ak P L 276 [.str (TT n d)] (Ry q n d)/\(q=true->n.natAbs<1000000000/\d<1000000000):=by
 generalize hs:TT n d=s at hl;by_cases mR:20<s.length
 ·refine ⟨false,?_,fun h=>by cases h⟩;unfold ak;rw [aI h];simp only [go_sem,ya,oF,show (20:Int)<s.length by omega];rfl
 ·have hu:∃u,u=aw n.natAbs++iU d:=⟨_,rfl⟩;obtain ⟨u,hu⟩:=hu;have hK:∃K,K=(aw n.natAbs).length:=⟨_,rfl⟩;obtain ⟨K,hK⟩:=hK;have Ou:bU u=K:=by rw [hu,GQ _ (zR _),aaH,hK];rfl
  have hlen:u.length=K+(iU d).length:=by rw [hu,hK,yL]
  have hp:=qB n.natAbs;obtain ⟨b,r,hb,mi,hb2⟩:=Du n.natAbs;have CU:(n<0/\s=45::u)\/(¬n<0/\s=u):=by
   by_cases h0:n<0
   ·left;refine ⟨h0,?_⟩;rw [<-hs,hu,TT,lC h0];rfl
   ·right;refine ⟨h0,?_⟩;rw [<-hs,hu,TT,<-mY,yr h0];rfl
  have hul:u.length<=s.length:=by rcases CU with ⟨_,e⟩ | ⟨_,e⟩<;>rw [e]<;>simp
  have A9:0<u.length:=by omega
  have pW:u[0]=b:=by
   have:u=b::(r++iU d):=by rw [hu,hb];rfl
   simp [this]
  have e1:=EU AF (s:=u) (by omega);rw [Ou] at e1;have dW:ic u (some 0) (some K)=some (.str (aw n.natAbs)):=by
   rw [lF (by omega) (by omega),yH,hu,hK,List.take_left]
  unfold ak at e1;by_cases h9:9<K
  ·refine ⟨false,?_,fun h=>by cases h⟩;unfold ak;rw [aI h];rcases CU with ⟨h0,e⟩ | ⟨h0,e⟩
   ·have mR:¬20<u.length+1:=by rw [e] at mR;exact mR
    have kB:ic (45::u) (some 1) (some (u.length+1))=some (.str u):=by rw [lF (s:=45::u) (l:=1) (h:=u.length+1) (by omega) (by simp)];simp
    rw [e];simp only [go_sem,ya,oF,show ¬(20:Int)<((u.length+1:Nat):Int) by omega,show (0:Int)<((u.length+1:Nat):Int) by omega,Cz,eG,eU,dD,kB,e1,show (9:Int)<(K:Int) by omega];rfl
   ·rw [e];simp only [go_sem,ya,oF,show ¬(20:Int)<(u.length:Nat) by omega,show (0:Int)<(u.length:Nat) by omega,pH A9,pW,show ¬((b:Nat):Int)=45 by omega,e1,show (9:Int)<(K:Int) by omega];rfl
  ·by_cases ig:10<(iU d).length
   ·refine ⟨false,?_,fun h=>by cases h⟩;unfold ak;rw [aI h];rcases CU with ⟨h0,e⟩ | ⟨h0,e⟩
    ·have mR:¬20<u.length+1:=by rw [e] at mR;exact mR
     have kB:ic (45::u) (some 1) (some (u.length+1))=some (.str u):=by rw [lF (s:=45::u) (l:=1) (h:=u.length+1) (by omega) (by simp)];simp
     rw [e]
     simp only [go_sem,ya,oF,show ¬(20:Int)<((u.length+1:Nat):Int) by omega,show (0:Int)<((u.length+1:Nat):Int) by omega,Cz,eG,eU,dD,kB,e1,show ¬(9:Int)<(K:Int) by omega,wrap64 (n:=(u.length:Int)-(K:Int)) (by omega) (by omega),show (10:Int)<(u.length:Int)-(K:Int) by omega];rfl
    ·rw [e]
     simp only [go_sem,ya,oF,show ¬(20:Int)<(u.length:Nat) by omega,show (0:Int)<(u.length:Nat) by omega,pH A9,pW,show ¬((b:Nat):Int)=45 by omega,e1,show ¬(9:Int)<(K:Int) by omega,wrap64 (n:=(u.length:Int)-(K:Int)) (by omega) (by omega),show (10:Int)<(u.length:Int)-(K:Int) by omega];rfl
   ·have e2:=Jl sZ (s:=aw n.natAbs) (by omega) (qj n.natAbs);unfold ak at e2;have hm:=ack (n:=n.natAbs) (by omega);by_cases hd:d=1
    ·subst hd;have eN:iU 1=[]:=rfl;refine ⟨true,?_,fun _=>⟨hm,by decide⟩⟩;rw [eN] at hlen;simp only [yO,yZ] at hlen;unfold ak;rw [aI h];rcases CU with ⟨h0,e⟩ | ⟨h0,e⟩
     ·have mR:¬20<u.length+1:=by rw [e] at mR;exact mR
      have kB:ic (45::u) (some 1) (some (u.length+1))=some (.str u):=by rw [lF (s:=45::u) (l:=1) (h:=u.length+1) (by omega) (by simp)];simp
      rw [e]
      simp only [go_sem,ya,oF,show ¬(20:Int)<((u.length+1:Nat):Int) by omega,show (0:Int)<((u.length+1:Nat):Int) by omega,Cz,eG,eU,dD,kB,e1,show ¬(9:Int)<(K:Int) by omega,wrap64 (n:=(u.length:Int)-(K:Int)) (by omega) (by omega),show ¬(10:Int)<(u.length:Int)-(K:Int) by omega,dW,e2,show ¬(K:Int)<(u.length:Int) by omega,wrap64 (n:=0-(n.natAbs:Int)) (by omega) (by omega)];rw [show 0-(n.natAbs:Int)=n by omega];rfl
     ·rw [e]
      simp only [go_sem,ya,oF,show ¬(20:Int)<(u.length:Nat) by omega,show (0:Int)<(u.length:Nat) by omega,pH A9,pW,show ¬((b:Nat):Int)=45 by omega,eG,eU,dD,e1,show ¬(9:Int)<(K:Int) by omega,wrap64 (n:=(u.length:Int)-(K:Int)) (by omega) (by omega),show ¬(10:Int)<(u.length:Int)-(K:Int) by omega,dW,e2,show ¬(K:Int)<(u.length:Int) by omega];rw [show (n.natAbs:Int)=n by omega];rfl
    ·have eN:iU d=47::aw d:=yr hd;have Kc:(iU d).length=(aw d).length+1:=by rw [eN];rfl
     have hpd:=qB d;have hd9:=ack (n:=d) (by omega);have e3:=Jl sZ (s:=aw d) (by omega) (qj d);unfold ak at e3;have rI:ic u (some (K+1)) (some u.length)=some (.str (aw d)):=by
      rw [lF (by omega) (yo _),xx,hu,eN,hK,show (aw n.natAbs).length+1=(aw n.natAbs++[47]).length by simp,show aw n.natAbs++47::aw d=(aw n.natAbs++[47])++aw d by simp,List.drop_left]
     refine ⟨true,?_,fun _=>⟨hm,hd9⟩⟩;unfold ak;rw [aI h];rcases CU with ⟨h0,e⟩ | ⟨h0,e⟩
     ·have mR:¬20<u.length+1:=by rw [e] at mR;exact mR
      have kB:ic (45::u) (some 1) (some (u.length+1))=some (.str u):=by rw [lF (s:=45::u) (l:=1) (h:=u.length+1) (by omega) (by simp)];simp
      rw [e]
      simp only [go_sem,ya,oF,show ¬(20:Int)<((u.length+1:Nat):Int) by omega,show (0:Int)<((u.length+1:Nat):Int) by omega,Cz,eG,eU,dD,kB,e1,show ¬(9:Int)<(K:Int) by omega,wrap64 (n:=(u.length:Int)-(K:Int)) (by omega) (by omega),show ¬(10:Int)<(u.length:Int)-(K:Int) by omega,dW,e2,show (K:Int)<(u.length:Int) by omega,wrapN (n:=K+1) (by omega),show (K:Int)+1=((K+1:Nat):Int) from rfl,rI,e3,wrap64 (n:=0-(n.natAbs:Int)) (by omega) (by omega)];rw [show 0-(n.natAbs:Int)=n by omega];rfl
     ·rw [e]
      simp only [go_sem,ya,oF,show ¬(20:Int)<(u.length:Nat) by omega,show (0:Int)<(u.length:Nat) by omega,pH A9,pW,show ¬((b:Nat):Int)=45 by omega,eG,eU,dD,e1,show ¬(9:Int)<(K:Int) by omega,wrap64 (n:=(u.length:Int)-(K:Int)) (by omega) (by omega),show ¬(10:Int)<(u.length:Int)-(K:Int) by omega,dW,e2,show (K:Int)<(u.length:Int) by omega,wrapN (n:=K+1) (by omega),show (K:Int)+1=((K+1:Nat):Int) from rfl,rI,e3];rw [show (n.natAbs:Int)=n by omega];rfl
end
end
section
open Go (IntKind)
section
variable {P:aH} {L:Lib}
def Xe (h:Has P L 302 qZ) {v:AV} {l:List Int} (hv:br v l) (i:Nat):ak P L 302 [v,ab i] (ab (l.getD i 0)):=by
 unfold ak;rw [aI h];by_cases hi:i<l.length
 ·simp only [go_sem,ya,qZ,hv.len,show (i:Int)<l.length by omega,hv.aM hi];simp [yz,yK hi]
 ·simp only [go_sem,ya,qZ,hv.len,show ¬(i:Int)<l.length by omega];simp [yz,List.getElem?_eq_none (Nat.le_of_not_lt hi)]
def afG {hp:Hp} {e:Bool} {n:Nat} {cs:List AV} {tm:Env} {h:Nat} {x:X} (hx:cW tm n (some x)=some h) (hh:h<=n):
  eV hp (.sl 1) (.ai e n cs) tm none (some x)=some (.ai (e&&yx h n) h (cs.take h)):=by
 simp only [eV,hx,eU];simp [yt hh,slice];rw [show yF 0 h=true from yt (uG _)];rfl
def AG (h:Has P L 300 kS) {v:AV} {l:List Int} (hv:br v l) (hl:l.length<=20000000000):∃r,ak P L 300 [v] r/\br r (dK l)/\shut r=r:=by
 rcases hv with ⟨rfl,h0⟩ | ⟨e,rfl⟩
 ·have:l=[]:=by simpa using h0
  subst this;refine ⟨.aa,?_,qu,rfl⟩;unfold ak;rw [aI h];simp only [go_sem,ya,kS,L9,BW,av,show ¬(0:Int)<0 by decide]
 ·have key:=fN (P:=P) (L:=L) (live:=[0]) (a:=BW)
   (I:=fun k st=>∃(i:Nat) (e:Bool),st=⟨[(0,.ai e i ((l.take i).map ab))],[],0,0⟩/\i<=l.length/\i=k/\dK (l.take i)=dK l)
   (Q:=fun ex st=>∃tm ct,st=⟨tm,[],ct,0⟩/\ex= .exit 0/\∃i e,aj tm 0= .ai e i ((l.take i).map ab)/\i<=l.length/\l.take i=dK l) ?_
  ·have hlen:(l.map ab).length=l.length:=by simp
   rw [hlen];have iB:∃i e',ak P L 300 [.ai e l.length (l.map ab)] (.ai e' i ((l.take i).map ab))/\i<=l.length/\l.take i=dK l:=by
    unfold ak;rw [aI h];simp only [go_sem,kS];generalize hq:D P L (.loop [0] BW) _=q;obtain ⟨ex,st,rfl,tm,ct,rfl,rfl,i,e',h2,h3,h4⟩:=bI hq (key l.length) ⟨l.length,e,by simp only [go_sem,ya,av,xx],yo _,rfl,by rw [xx]⟩;simp only [go_sem,av,h2];exact ⟨i,e',rfl,h3,h4⟩
   obtain ⟨i,e',g1,g2,g3⟩:=iB;refine ⟨_,g1,?_,rfl⟩;rw [<-g3]
   have:=mv e' (l.take i)
   rwa [yI,xE g2] at this
  ·rintro k st ⟨i,e,rfl,hi,rfl,ht⟩
   cases i with
   | zero=>
    right
    simp only [go_sem,ya,BW,show ¬(0:Int)<((0:Nat):Int) by omega];exact ⟨_,_,rfl,by simp,_,_,rfl,rfl,0,e,by simp only [go_sem,ya],uG _,by simpa [dK] using ht⟩
   | succ i=>
    have Kd:i<l.length:=by omega
    have eD:l.take (i+1)=l.take i++[l[i]]:=xa Kd;have gV:vZ i ((l.take (i+1)).map ab)=[AV.int .i64 l[i]]:=by
     rw [eD,List.map_append,List.drop_left' (by simp;omega)];rfl
    have nM:jv 1 i (.ai e (i+1) ((l.take (i+1)).map ab))=some (.bZ [AV.int .i64 l[i]]):=by
     rw [QT e _ (by omega),yi,gV]
    by_cases h0:l[i]=0
    ·left
     have kV:∀tm x,cW tm (i+1) (some x)=some i->eV [] (.sl 1) (.ai e (i+1) ((l.take (i+1)).map ab)) tm none (some x)=some (.ai (e&&yx i (i+1)) i ((l.take i).map ab)):=fun tm x hx=>by
      rw [afG hx (by omega),<-yaS,List.take_take,xE (by omega)]
     simp only [go_sem,ya,BW,show (0:Int)<((i+1:Nat):Int) by omega,show ((i+1:Nat):Int)-1=(i:Int) by omega,wrapN (n:=i) (by omega),nM,h0,kV,dD];refine ⟨_,i,rfl,by omega,i,_,by simp only [go_sem,av]<;>rfl,by omega,rfl,?_⟩
     rw [<-ht,eD,h0,GY]
    ·right
     simp only [go_sem,ya,BW,show (0:Int)<((i+1:Nat):Int) by omega,show ((i+1:Nat):Int)-1=(i:Int) by omega,wrapN (n:=i) (by omega),nM,h0];refine ⟨_,_,rfl,by simp,_,_,rfl,rfl,i+1,e,by simp only [go_sem,ya],by omega,?_⟩;rw [<-ht,eD,KW h0]
end
end
section
open Go (IntKind)
abbrev uc (n:Nat):AV:= .int .u64 (n:Int)
def bO (v:AV) (l:List Nat):Prop:=cT v (l.map uc)
section
variable {v:AV} {l:List Nat}
def bO.len (h:bO v l) {hp:Hp}:fp hp 1 v=some (.int .i64 (l.length:Nat)):=by
 have:=cT.len (hp:=hp) h
 grind
def bO.pu (h:bO v l):aZ v=true:=cT.pu h
def bO.ao (h:bO v l) (n:Nat) {hp:Hp}:freeze (n+1) hp v=some (v,hp):=cT.ao h n
def bO.shut (h:bO v l):VE.shut v=v:=cT.shut h
def bO.bT (h:bO v l):VE.bT v=v:=cT.bT h
def bO.fT (h:bO v l) {hp:Hp}:result hp v=some v:=cT.fT h
def bO.one (h:bO v l):dc v=true:=cT.one h
def bO.aM (h:bO v l) {i:Nat} (hi:i<l.length):jv 1 i v=some (.bZ (uc (l.getD i 0)::(l.map uc).drop (i+1))):=by
 have:=cT.aM h (i:=i) (by simpa using hi)
 grind
def mw (e:Bool) (l:List Nat):bO (.ai e l.length (l.map uc)) l:=by
 have:=Hx e (l.map uc)
 rwa [List.length_map] at this
def r8:bO .aa []:=qu
end
def jH {hp:Hp} {ct id o:Nat} {v:Nat} {ex:Bool} {l:List Nat} (h:o<l.length):gU hp ct id o 1 [.int .u64 (v:Int)] (some (.cells true true ex 1 (l.map uc)))=some (.ae [],bc hp id (.cells true true ex 1 ((l.set o v).map uc)),ct):=by
 rw [qQ (by rfl) (by simp;omega) (by rfl)]
 have:over o [uc v] (l.map uc)=(l.set o v).map uc:=by
  simp only [over,yG,yO,yg];rw [List.map_set,List.set_eq_take_append_cons_drop,yE (by simpa using h)]
  simp
 rw [this];rfl
def sJ {l:List Nat} {o:Nat} (h:o<l.length):vZ o (l.map uc)=uc (l.getD o 0)::vZ (o+1) (l.map uc):=by
 rw [yX (by simpa using h)]
 grind
def atg (n:Nat):(yq n [AV.int .u64 0]).flatten=(yq n 0).map uc:=by simp_all
def CA (ct:Nat) {n:Nat} (h:n<=100000000000):oI ct 1 8 [.int .u64 0] (some n) (some n)=some (.aC ct 0 n,.cells true true true 1 ((yq n 0).map uc)):=by
 rw [Ag (sz:=1) (by omega) (by omega) (by rfl) (by rfl),atg];rfl
def AH (hp:Hp) {n:Nat} {l:List Nat} (h:l.length=n) (ex:Bool):jY 0 n (some (ex,1,l.map uc,hp))=some (.ai ex n (l.map uc),hp):=nW ex (by simp [h]) (by decide)
def ahv {n:Nat} (h:n<18446744073709551616):IntKind.wrap .u64 (n:Int)=n:=ay0 (by omega) (by omega)
section
variable {P:aH} {L:Lib} {f:cy}
def jS {a b:Nat} (h:a<b):yP a b=true:=by simp_all
def B1 (h:L.pure 171=some nf) {x y c:Nat} (hx:x<18446744073709551616) (hy:y<18446744073709551616) (hc:c<=1):
  bH P L f 171 [uc x,uc y,uc c]=some (.ae [uc ((x+y+c)%18446744073709551616),uc ((x+y+c)/18446744073709551616)]):=by
 rw [iL h];show (bif yF c 1&&(yP x 18446744073709551616&&yP y 18446744073709551616) then _ else none)=_
 rw [yt hc,jS hx,jS hy];rfl
def Rz (h:L.pure 173=some Ab) {x y c:Nat} (hx:x<18446744073709551616) (hy:y<18446744073709551616) (hc:c<=1):
  bH P L f 173 [uc x,uc y,uc c]=some (.ae [uc ((x+18446744073709551616*2-y-c)%18446744073709551616),uc (if y+c<=x then 0 else 1)]):=by
 rw [iL h];show (bif yF c 1&&(yP x 18446744073709551616&&yP y 18446744073709551616) then _ else none)=_
 rw [yt hc,jS hx,jS hy];by_cases hh:y+c<=x
 ·rw [yt hh,yE hh];rfl
 ·have:yF (y+c) x=false:=by
   cases hq:yF (y+c) x with
   | false=>rfl
   | true=>exact absurd (yA hq) hh
  grind
def Mb (h:L.pure 143=some qH) {x y:Nat} (hx:x<18446744073709551616) (hy:y<18446744073709551616):
  bH P L f 143 [uc x,uc y]=some (.ae [uc (x*y/18446744073709551616),uc (x*y%18446744073709551616)]):=by
 rw [iL h];show (bif yP x 18446744073709551616&&yP y 18446744073709551616 then _ else none)=_
 rw [jS hx,jS hy];rfl
def aq2 {hp:Hp} {tm:Env} {x:X} (hx:cW tm 0 (some x)=some 0):eV hp (.sl 1) .aa tm none (some x)=some .aa:=by
 simp only [eV,hx,eU]
def AI (h:Has P L 166 Aw) {v:AV} {l:List Nat} (hv:bO v l) (hl:l.length<=100000000000):∃r,ak P L 166 [v] r/\bO r (dL l):=by
 rcases hv with ⟨rfl,h0⟩ | ⟨e,rfl⟩
 ·have:l=[]:=by simpa using h0
  subst this;refine ⟨.aa,?_,qu⟩;unfold ak;rw [aI h];simp only [go_sem,ya,Aw,L9,BP,av,show ¬(0:Int)<0 by decide,aq2,dD]
 ·have key:=fN (P:=P) (L:=L) (live:=[0,3]) (a:=BP)
   (I:=fun k st=>∃(i:Nat),st=⟨[(0,.ai e l.length (l.map uc)),(3,ab i)],[],0,0⟩/\i<=l.length/\i=k/\dL (l.take i)=dL l)
   (Q:=fun ex st=>∃tm ct,st=⟨tm,[],ct,0⟩/\ex= .exit 0/\∃i:Nat,aj tm 0= .ai e l.length (l.map uc)/\aj tm 3=ab i/\i<=l.length/\l.take i=dL l) ?_
  ·have hlen:(l.map uc).length=l.length:=by simp
   rw [hlen];have iB:∃i e',ak P L 166 [.ai e l.length (l.map uc)] (.ai e' i ((l.take i).map uc))/\i<=l.length/\l.take i=dL l:=by
    unfold ak;rw [aI h];simp only [go_sem,ya,Aw];generalize hq:D P L (.loop [0,3] BP) _=q;obtain ⟨ex,st,rfl,tm,ct,rfl,rfl,i,h2,h3,h4,h5⟩:=bI hq (key l.length) ⟨l.length,by simp only [go_sem,ya,av],yo _,rfl,by rw [xx]⟩;have kV:∀tm x,cW tm l.length (some x)=some i->eV [] (.sl 1) (.ai e l.length (l.map uc)) tm none (some x)=some (.ai (e&&yx i l.length) i ((l.map uc).take i)):=fun tm x hx=>afG hx h4
    simp only [go_sem,ya,av,h2,h3,kV,dD];exact ⟨i,_,by rw [yaS],h4,h5⟩
   obtain ⟨i,e',g1,g2,g3⟩:=iB;refine ⟨_,g1,?_⟩;rw [<-g3]
   have:=mw e' (l.take i)
   rwa [yI,xE g2] at this
  ·rintro k st ⟨i,rfl,hi,rfl,ht⟩
   cases i with
   | zero=>
    right
    simp only [go_sem,ya,BP,show ¬(0:Int)<((0:Nat):Int) by omega];exact ⟨_,_,rfl,by simp,_,_,rfl,rfl,0,by simp only [go_sem,ya],by simp only [go_sem,ya],uG _,by simpa [dL] using ht⟩
   | succ i=>
    have Kd:i<l.length:=by omega
    have eD:l.take (i+1)=l.take i++[l[i]]:=xa Kd;have nM:=(mw e l).aM Kd;rw [<-gd Kd] at nM;by_cases h0:l[i]=0
    ·left
     simp only [go_sem,ya,BP,show (0:Int)<((i+1:Nat):Int) by omega,show ((i+1:Nat):Int)-1=(i:Int) by omega,wrapN (n:=i) (by omega),nM,show ((l[i]:Nat):Int)=0 by omega];refine ⟨_,i,rfl,by omega,i,by simp only [go_sem,ya,av],by omega,rfl,?_⟩;rw [<-ht,eD,h0,KX]
    ·right
     simp only [go_sem,ya,BP,show (0:Int)<((i+1:Nat):Int) by omega,show ((i+1:Nat):Int)-1=(i:Int) by omega,wrapN (n:=i) (by omega),nM,show ¬((l[i]:Nat):Int)=0 by omega];refine ⟨_,_,rfl,by simp,_,_,rfl,rfl,i+1,by simp only [go_sem,ya],by simp only [go_sem,ya],by omega,?_⟩;rw [<-ht,eD,Dp h0]
end
end
section
open Go (IntKind)
def KZ (p b s:Nat):p*(s%b)+p*b*(s/b)=p*s:=by
 rw [xk,<-xt,Nat.mod_add_div]
def aoW {b:Nat} {x y out:List Nat} {i c:Nat} (hi:i<out.length) (hz:out.getD i 0=0) (hv:bv b out+b^i*c=bv b (x.take i)+bv b (y.take i)):
  bv b (out.set i ((x.getD i 0+y.getD i 0+c)%b))+b^(i+1)*((x.getD i 0+y.getD i 0+c)/b)=bv b (x.take (i+1))+bv b (y.take (i+1)):=by
 have h1:=ni (b:=b) (x:=(x.getD i 0+y.getD i 0+c)%b) hi;have h2:=KZ (b^i) b (x.getD i 0+y.getD i 0+c);rw [hz,xD,yZ] at h1;rw [iO,iO,xc,h1]
 grind
def aoX {b:Nat} {x y out:List Nat} {i c z c':Nat} (hi:i<out.length) (hz:out.getD i 0=0) (hs:z+y.getD i 0+c=x.getD i 0+b*c') (hv:bv b out+bv b (y.take i)=bv b (x.take i)+b^i*c):
  bv b (out.set i z)+bv b (y.take (i+1))=bv b (x.take (i+1))+b^(i+1)*c':=by
 have h1:=ni (b:=b) (x:=z) hi;rw [hz,xD,yZ] at h1;rw [iO,iO,xc,h1]
 grind
section
variable {P:aH} {L:Lib}
def ajc (h:Has P L 158 Er) {v w:AV} {x y:List Nat} (hv:bO v x) (hw:bO w y) (hx:lo 18446744073709551616 x) (hy:lo 18446744073709551616 y) (nx:fW x) (ny:fW y) (lx:x.length<=100000000000) (ly:y.length<=100000000000):
  ak P L 158 [v,w] (ab (dF (bv 18446744073709551616 x) (bv 18446744073709551616 y))):=by
 unfold ak;rw [aI h];by_cases hlen:x.length=y.length
 ·have key:=fN (P:=P) (L:=L) (live:=[0,1,5]) (a:=BO)
   (I:=fun k st=>∃j:Nat,st=⟨[(0,v),(1,w),(5,ab ((j:Int)-1))],[],0,0⟩/\j<=x.length/\j=k/\x.drop j=y.drop j)
   (Q:=fun ex st=>∃tm ct,st=⟨tm,[],ct,0⟩/\((ex= .ret/\aj tm 4=ab (dF (bv 18446744073709551616 x) (bv 18446744073709551616 y)))\/(ex= .exit 0/\x=y))) ?_
  ·simp only [go_sem,ya,Er,hv.len,hw.len,show (x.length:Int)=y.length by omega];generalize hq:D P L (.loop [0,1,5] BO) _=q;obtain ⟨ex,st,rfl,tm,ct,rfl,h2⟩:=bI hq (key x.length) ⟨x.length,by
    rw [wrap64 (by omega) (by omega),hlen]
    simp only [go_sem,ya,av,au hv.pu,ax _ hv.pu,au hw.pu,ax _ hw.pu]<;>rfl,yo _,rfl,by rw [xj (yo _),xj (by omega)]⟩
   rcases h2 with ⟨rfl,h2⟩ | ⟨rfl,h2⟩
   ·simp only [go_sem,h2]
   ·simp only [go_sem,av];subst h2;simp [dF]
  ·rintro k st ⟨j,rfl,hj,rfl,he⟩
   cases j with
   | zero=>
    right
    simp only [go_sem,ya,BO,show ¬(0:Int)<=((0:Nat):Int)-1 by omega];exact ⟨_,_,rfl,by simp,_,_,rfl,.inr ⟨rfl,by simpa using he⟩⟩
   | succ i=>
    have h1:i<x.length:=by omega
    have h2:i<y.length:=by omega
    have Fp:=afz hx h1 h2 he;have aW:=afz hy h2 h1 he.symm;by_cases c0:x.getD i 0=y.getD i 0
    ·left
     simp only [go_sem,ya,BO,show ((i+1:Nat):Int)-1=(i:Int) by omega,show (0:Int)<=(i:Int) by omega,hv.aM h1,hw.aM h2,c0];refine ⟨_,i,rfl,by omega,i,?_,by omega,rfl,?_⟩
     ·rw [wrap64 (by omega) (by omega)];simp only [go_sem,ya,av,au hv.pu,ax _ hv.pu,au hw.pu,ax _ hw.pu]<;>rfl
     ·rw [yX h1,yX h2,he,gd h1,gd h2,c0]
    ·by_cases c1:x.getD i 0<y.getD i 0
     ·right
      simp only [go_sem,ya,BO,show ((i+1:Nat):Int)-1=(i:Int) by omega,show (0:Int)<=(i:Int) by omega,hv.aM h1,hw.aM h2,show ¬((x.getD i 0:Nat):Int)=(y.getD i 0:Nat) by omega,show ((x.getD i 0:Nat):Int)<(y.getD i 0:Nat) by omega];refine ⟨_,_,rfl,by simp,_,_,rfl,.inl ⟨rfl,?_⟩⟩;simp only [go_sem];unfold dF;rw [yE (Fp c1)]
     ·right
      simp only [go_sem,ya,BO,show ((i+1:Nat):Int)-1=(i:Int) by omega,show (0:Int)<=(i:Int) by omega,hv.aM h1,hw.aM h2,show ¬((x.getD i 0:Nat):Int)=(y.getD i 0:Nat) by omega,show ¬((x.getD i 0:Nat):Int)<(y.getD i 0:Nat) by omega];refine ⟨_,_,rfl,by simp,_,_,rfl,.inl ⟨rfl,?_⟩⟩;simp only [go_sem];unfold dF;rw [yr (by omega),yE (by omega)]
 ·by_cases c1:x.length<y.length
  ·have:=LK (b:=18446744073709551616) (by decide) hx ny c1
   simp only [go_sem,ya,Er,hv.len,hw.len,show ¬(x.length:Int)=y.length by omega,show (x.length:Int)<y.length by omega];unfold dF;rw [yE this]
  ·have:=LK (b:=18446744073709551616) (by decide) hy nx (show y.length<x.length by omega)
   simp only [go_sem,ya,Er,hv.len,hw.len,show ¬(x.length:Int)=y.length by omega,show ¬(x.length:Int)<y.length by omega];unfold dF;rw [yr (by omega),yE this]
def agN (fS:L.pure 171=some nf) {v w:AV} {x y:List Nat} (hv:bO v x) (hw:bO w y) (hx:lo 18446744073709551616 x) (hy:lo 18446744073709551616 y) (lx:x.length<=99999999999) (ly:y.length<=x.length) {n:Nat} (hn:n=x.length+1):
  ∀k s,(∃(i c:Nat) (out:List Nat),aQ [0,1,5,6,21,22] s=⟨[(0,v),(1,w),(5,.aC 0 0 n),(6,uc c),(21,ab x.length),(22,ab i)],[(0,.cells true true true 1 (out.map uc))],1,0⟩/\i+k=x.length/\out.length=n/\c<=1/\lo 18446744073709551616 out/\
    bv 18446744073709551616 out+18446744073709551616^i*c=bv 18446744073709551616 (x.take i)+bv 18446744073709551616 (y.take i)/\(∀m,i<=m->out.getD m 0=0))->
   ∃ex s',D P L (.loop [0,1,5,6,21,22] BN) s=some (ex,s')/\∃tm c out,s'=⟨tm,[(0,.cells true true true 1 (out.map uc))],1,0⟩/\ex= .exit 0/\aj tm 0=v/\aj tm 5= .aC 0 0 n/\aj tm 6=uc c/\out.length=n/\c<=1/\lo 18446744073709551616 out/\
    bv 18446744073709551616 out+18446744073709551616^x.length*c=bv 18446744073709551616 x+bv 18446744073709551616 y/\out.getD x.length 0=0:=by
 intro dq sq;generalize bk:aQ [0,1,5,6,21,22] sq=s0;revert bk s0 sq dq;apply di;rintro k s ⟨i,c,out,rfl,hk,hlen,hc,bf,aO,fL⟩;by_cases hi:i<x.length
 ·left
  have hz:=fL i (yo _);have jT:=aoW (x:=x) (y:=y) (show i<out.length by omega) hz aO;have gx:=gg (show 0<18446744073709551616 by decide) hx i;have gy:=gg (show 0<18446744073709551616 by decide) hy i;have e1:=B1 (P:=P) (f:=D P L) fS gx gy hc;have ex:=hv.aM hi;generalize x.getD i 0=p at*
  by_cases hj:i<y.length
  ·have ey:=hw.aM hj;generalize y.getD i 0=q at*
   simp only [go_sem,ya,yi,BN,hw.len,show (i:Int)<x.length by omega,show (i:Int)<y.length by omega,ex,ey,e1,cp 0 0 (show i<n by omega),yg,jH (l:=out) (o:=i) (by omega)]
   refine ⟨_,k-1,rfl,by omega,i+1,(p+q+c)/18446744073709551616,_,?_,by omega,by simp [hlen],by omega,lK bf (x:=(p+q+c)%18446744073709551616) (i:=i) (by omega),jT,fun m hm=>?_⟩
   ·rw [wrap64 (by omega) (by omega)];simp only [go_sem,ya,yb,av,au hv.pu,ax _ hv.pu,au hw.pu,ax _ hw.pu]<;>rfl
   ·rw [n8 (by omega)];exact fL m (by omega)
  ·have jo:y.getD i 0=0:=Rw (by omega);rw [jo] at jT e1;rw [show (uc 0)=AV.int .u64 0 from rfl] at e1
   simp only [go_sem,ya,yi,BN,hw.len,show (i:Int)<x.length by omega,show ¬(i:Int)<y.length by omega,ex,e1,cp 0 0 (show i<n by omega),yg,jH (l:=out) (o:=i) (by omega)]
   refine ⟨_,k-1,rfl,by omega,i+1,(p+0+c)/18446744073709551616,_,?_,by omega,by simp [hlen],by omega,lK bf (x:=(p+0+c)%18446744073709551616) (i:=i) (by omega),jT,fun m hm=>?_⟩
   ·rw [wrap64 (by omega) (by omega)];simp only [go_sem,ya,yb,av,au hv.pu,ax _ hv.pu,au hw.pu,ax _ hw.pu]<;>rfl
   ·rw [n8 (by omega)];exact fL m (by omega)
 ·right
  have:i=x.length:=by omega
  subst this;rw [xx,yN ly] at aO;simp only [go_sem,ya,BN,show ¬(x.length:Int)<x.length by omega];exact ⟨_,_,rfl,by simp,_,c,out,rfl,rfl,by simp only [go_sem,ya],by simp only [go_sem,ya],by simp only [go_sem,ya],hlen,hc,bf,aO,fL _ (yo _)⟩
def aAc (h:Has P L 157 IL) (lZ:Has P L 166 Aw) (fS:L.pure 171=some nf) {v w:AV} {x y:List Nat} (hv:bO v x) (hw:bO w y) (hx:lo 18446744073709551616 x) (hy:lo 18446744073709551616 y) (lx:x.length<=99999999999) (ly:y.length<=99999999999):
  ∃r out,ak P L 157 [v,w] r/\bO r out/\lo 18446744073709551616 out/\fW out/\bv 18446744073709551616 out=bv 18446744073709551616 x+bv 18446744073709551616 y:=by
 have fin:∀{x y o:List Nat} {n c:Nat},n=x.length+1->x.length<=99999999999->o.length=n->c<=1->lo 18446744073709551616 o->bv 18446744073709551616 o+18446744073709551616^x.length*c=bv 18446744073709551616 x+bv 18446744073709551616 y->o.getD x.length 0=0->
   ∃r,bH P L (D P L) 166 [.ai true n ((o.set x.length c).map uc)]=some r/\bO r (dL (o.set x.length c))/\lo 18446744073709551616 (dL (o.set x.length c))/\fW (dL (o.set x.length c))/\bv 18446744073709551616 (dL (o.set x.length c))=bv 18446744073709551616 x+bv 18446744073709551616 y:=by
  intro x y o n c hn lx hlen hc bf aO hz;have bc:=ni (b:=18446744073709551616) (l:=o) (i:=x.length) (x:=c) (by omega);rw [hz,xD,yZ,aO] at bc;have aAd:lo 18446744073709551616 (o.set x.length c):=lK bf (by omega);have hf:=mw true (o.set x.length c);rw [List.length_set,hlen] at hf;obtain ⟨r,e1,hr⟩:=AI lZ hf (by simp;omega);exact ⟨r,e1,hr,zW aAd,zV _,by rw [zU];exact bc⟩
 by_cases hl:x.length<y.length
 ·obtain ⟨n,hn⟩:∃n,n=y.length+1:=⟨_,rfl⟩;unfold ak;rw [aI h]
  simp only [go_sem,ya,yb,IL,hv.len,hw.len,show (x.length:Int)<y.length by omega,wrapN (n:=n) (by omega),show (y.length:Int)+1=((y.length+1:Nat):Int) from rfl,<-hn,CA (n:=n) _ (by omega)];generalize hq:D P L (.loop [0,1,5,6,21,22] BN) _=q;obtain ⟨ex,s,rfl,tm,c,o,rfl,rfl,t0,t5,t6,hlen,hc,bf,aO,hz⟩:=bI hq (agN (P:=P) (L:=L) fS hw hv hy hx ly (by omega) hn y.length)
   ⟨0,0,yq n 0,by simp only [go_sem,ya,yb,av,au hv.pu,ax _ hv.pu,au hw.pu,ax _ hw.pu]<;>rfl,by omega,by simp,by omega,D7 (by decide) n,by rw [D8];simp [bv],fun m _=>BH n m⟩
  obtain ⟨r,e1,hr,f1,f2,f3⟩:=fin hn ly hlen hc bf aO hz;refine ⟨r,_,?_,hr,f1,f2,by rw [f3];omega⟩
  simp only [go_sem,ya,yi,av,au hw.pu,ax _ hw.pu,hw.len,t0,t5,t6,cp 0 0 (show y.length<n by omega),yg,jH (l:=o) (o:=y.length) (by omega)]
  simp only [go_sem,AH _ (n:=n) (l:=o.set y.length c) (by simp [hlen]) true,e1,hr.shut,hr.fT]
 ·obtain ⟨n,hn⟩:∃n,n=x.length+1:=⟨_,rfl⟩;unfold ak;rw [aI h]
  simp only [go_sem,ya,yb,IL,hv.len,hw.len,show ¬(x.length:Int)<y.length by omega,wrapN (n:=n) (by omega),show (x.length:Int)+1=((x.length+1:Nat):Int) from rfl,<-hn,CA (n:=n) _ (by omega)];generalize hq:D P L (.loop [0,1,5,6,21,22] BN) _=q;obtain ⟨ex,s,rfl,tm,c,o,rfl,rfl,t0,t5,t6,hlen,hc,bf,aO,hz⟩:=bI hq (agN (P:=P) (L:=L) fS hv hw hx hy lx (by omega) hn x.length)
   ⟨0,0,yq n 0,by simp only [go_sem,ya,yb,av,au hv.pu,ax _ hv.pu,au hw.pu,ax _ hw.pu]<;>rfl,by omega,by simp,by omega,D7 (by decide) n,by rw [D8];simp [bv],fun m _=>BH n m⟩
  obtain ⟨r,e1,hr,f1,f2,f3⟩:=fin hn lx hlen hc bf aO hz;refine ⟨r,_,?_,hr,f1,f2,f3⟩
  simp only [go_sem,ya,yi,av,au hv.pu,ax _ hv.pu,hv.len,t0,t5,t6,cp 0 0 (show x.length<n by omega),yg,jH (l:=o) (o:=x.length) (by omega)]
  simp only [go_sem,AH _ (n:=n) (l:=o.set x.length c) (by simp [hlen]) true,e1,hr.shut,hr.fT]
end
end
section
open Go (IntKind)
def aoY {b:Nat} {out:List Nat} {p j c t o x y Y bo ba:Nat} (ho:o=out.getD j 0) (hj:j<out.length) (ht:t=o+x*y+c) (hv:bo+p*c=ba+p*(x*Y)) (hb:bo=bv b out) (hp:p=b^j):
  bv b (out.set j (t%b))+p*b*(t/b)=ba+p*(x*(Y+0))+p*(x*y):=by
 have h1:=ni (b:=b) (x:=t%b) hj;have h2:=KZ p b t
 grind
section
variable {P:aH} {L:Lib}
def Qz {x y c:Nat} (hx:x<18446744073709551616) (hy:y<18446744073709551616) (hc:c<=1):
  (x+18446744073709551616*2-y-c)%18446744073709551616+y+c=x+18446744073709551616*(if y+c<=x then 0 else 1):=by grind
def awS (re:L.pure 173=some Ab) {v w:AV} {x y:List Nat} (hv:bO v x) (hw:bO w y) (hx:lo 18446744073709551616 x) (hy:lo 18446744073709551616 y) (lx:x.length<=99999999999) (ly:y.length<=x.length) (hle:bv 18446744073709551616 y<=bv 18446744073709551616 x) {n:Nat} (hn:n=x.length):
  ∀k s,(∃(i c:Nat) (out:List Nat),aQ [0,1,5,6,13,14] s=⟨[(0,v),(1,w),(5,.aC 0 0 n),(6,uc c),(13,ab x.length),(14,ab i)],[(0,.cells true true true 1 (out.map uc))],1,0⟩/\i+k=x.length/\out.length=n/\c<=1/\lo 18446744073709551616 out/\
    bv 18446744073709551616 out+bv 18446744073709551616 (y.take i)=bv 18446744073709551616 (x.take i)+18446744073709551616^i*c/\(∀m,i<=m->out.getD m 0=0))->
   ∃ex s',D P L (.loop [0,1,5,6,13,14] DQ) s=some (ex,s')/\∃tm out,s'=⟨tm,[(0,.cells true true true 1 (out.map uc))],1,0⟩/\ex= .exit 0/\aj tm 5= .aC 0 0 n/\out.length=n/\lo 18446744073709551616 out/\
    bv 18446744073709551616 out+bv 18446744073709551616 y=bv 18446744073709551616 x:=by
 intro dq sq;generalize bk:aQ [0,1,5,6,13,14] sq=s0;revert bk s0 sq dq;apply di;rintro k s ⟨i,c,out,rfl,hk,hlen,hc,bf,aO,fL⟩;by_cases hi:i<x.length
 ·left
  have hz:=fL i (yo _);have gx:=gg (show 0<18446744073709551616 by decide) hx i;have gy:=gg (show 0<18446744073709551616 by decide) hy i;have CV:=Qz gx gy hc;have jT:=aoX (x:=x) (y:=y) (show i<out.length by omega) hz CV aO;have e1:=Rz (P:=P) (f:=D P L) re gx gy hc;have ex:=hv.aM hi;generalize x.getD i 0=p at*
  have kD:(if y.getD i 0+c<=p then 0 else 1)<=1:=by split<;>omega
  by_cases hj:i<y.length
  ·have ey:=hw.aM hj;generalize y.getD i 0=q at*
   generalize (if q+c<=p then 0 else 1)=c1 at*
   simp only [go_sem,ya,xM,yi,DQ,hw.len,show (i:Int)<x.length by omega,show (i:Int)<y.length by omega,ex,ey,e1,cp 0 0 (show i<n by omega),yg,jH (l:=out) (o:=i) (by omega)]
   refine ⟨_,k-1,rfl,by omega,i+1,c1,_,?_,by omega,by simp [hlen],kD,lK bf (x:=(p+18446744073709551616*2-q-c)%18446744073709551616) (i:=i) (by omega),jT,fun m hm=>?_⟩
   ·rw [wrap64 (by omega) (by omega)];simp only [go_sem,ya,yb,xM,av,au hv.pu,ax _ hv.pu,au hw.pu,ax _ hw.pu]<;>rfl
   ·rw [n8 (by omega)];exact fL m (by omega)
  ·have jo:y.getD i 0=0:=Rw (by omega);rw [jo] at jT e1 kD;rw [show (uc 0)=AV.int .u64 0 from rfl] at e1;generalize (if 0+c<=p then 0 else 1)=c1 at*
   simp only [go_sem,ya,xM,yi,DQ,hw.len,show (i:Int)<x.length by omega,show ¬(i:Int)<y.length by omega,ex,e1,cp 0 0 (show i<n by omega),yg,jH (l:=out) (o:=i) (by omega)]
   refine ⟨_,k-1,rfl,by omega,i+1,c1,_,?_,by omega,by simp [hlen],kD,lK bf (x:=(p+18446744073709551616*2-0-c)%18446744073709551616) (i:=i) (by omega),jT,fun m hm=>?_⟩
   ·rw [wrap64 (by omega) (by omega)];simp only [go_sem,ya,yb,xM,av,au hv.pu,ax _ hv.pu,au hw.pu,ax _ hw.pu]<;>rfl
   ·rw [n8 (by omega)];exact fL m (by omega)
 ·right
  have:i=x.length:=by omega
  subst this;rw [xx,yN ly] at aO;have aW:=lQ bf;rw [hlen,hn] at aW;simp only [go_sem,ya,DQ,show ¬(x.length:Int)<x.length by omega];refine ⟨_,_,rfl,by simp,_,out,rfl,rfl,by simp only [go_sem,ya],hlen,bf,?_⟩;rcases (show c=0\/c=1 by omega) with rfl | rfl
  ·omega
  ·omega
def ajd (h:Has P L 159 MV) (lZ:Has P L 166 Aw) (re:L.pure 173=some Ab) {v w:AV} {x y:List Nat} (hv:bO v x) (hw:bO w y) (hx:lo 18446744073709551616 x) (hy:lo 18446744073709551616 y) (ny:fW y) (lx:x.length<=99999999999) (hle:bv 18446744073709551616 y<=bv 18446744073709551616 x):
  ∃r out,ak P L 159 [v,w] r/\bO r out/\lo 18446744073709551616 out/\fW out/\bv 18446744073709551616 out+bv 18446744073709551616 y=bv 18446744073709551616 x:=by
 have ly:y.length<=x.length:=by
  by_cases hh:x.length<y.length
  ·have:=LK (b:=18446744073709551616) (by decide) hx ny hh
   omega
  ·omega
 obtain ⟨n,hn⟩:∃n,n=x.length:=⟨_,rfl⟩;unfold ak;rw [aI h]
 simp only [go_sem,ya,yb,MV,hv.len,<-hn,CA (n:=n) _ (by omega)];generalize hq:D P L (.loop [0,1,5,6,13,14] DQ) _=q;obtain ⟨ex,s,rfl,tm,o,rfl,rfl,t5,hlen,bf,aO⟩:=bI hq (awS (P:=P) (L:=L) re hv hw hx hy lx ly hle hn x.length)
  ⟨0,0,yq n 0,by rw [hn];simp only [go_sem,ya,yb,av,au hv.pu,ax _ hv.pu,au hw.pu,ax _ hw.pu]<;>rfl,by omega,by simp,by omega,D7 (by decide) n,by rw [D8];simp [bv],fun m _=>BH n m⟩
 have hf:=mw true o;rw [hlen] at hf;obtain ⟨r,e1,hr⟩:=AI lZ hf (by omega);refine ⟨r,_,?_,hr,zW bf,zV _,by rw [zU];exact aO⟩
 simp only [go_sem,yb,av,t5,AH _ (n:=n) (l:=o) hlen true,e1,hr.shut,hr.fT]
def aq3 {x y o c:Nat} (hx:x<18446744073709551616) (hy:y<18446744073709551616) (ho:o<18446744073709551616) (hc:c<18446744073709551616):
  o+x*y+c<18446744073709551616*18446744073709551616/\
  ((x*y%18446744073709551616+o+0)%18446744073709551616+c+0)%18446744073709551616=(o+x*y+c)%18446744073709551616/\
  x*y/18446744073709551616+(x*y%18446744073709551616+o+0)/18446744073709551616+((x*y%18446744073709551616+o+0)%18446744073709551616+c+0)/18446744073709551616=(o+x*y+c)/18446744073709551616:=by
 have h1:=Nat.mul_le_mul (show x<=18446744073709551615 by omega) (show y<=18446744073709551615 by omega)
 grind
def awT (ma:L.pure 143=some qH) (fS:L.pure 171=some nf) {v w:AV} {x y:List Nat} (hv:bO v x) (hw:bO w y) (hx:lo 18446744073709551616 x) (hy:lo 18446744073709551616 y) (lx:x.length<=49999999999) (ly:y.length<=49999999999) {n i:Nat} (hn:n=x.length+y.length) (hi:i<x.length) {a:Nat} (ha:a<18446744073709551616) {bo:Nat}:
  ∀k s,(∃(j c:Nat) (out:List Nat),aQ [1,5,6,7,8,20,21,22,27,28,29] s=⟨[(1,w),(5,.aC 0 0 n),(6,ab i),(7,uc a),(8,uc c),(20,v),(21,ab x.length),(22,ab i),(27,w),(28,ab y.length),(29,ab j)],[(0,.cells true true true 1 (out.map uc))],1,0⟩/\j+k=y.length/\out.length=n/\c<18446744073709551616/\lo 18446744073709551616 out/\
    bv 18446744073709551616 out+18446744073709551616^(i+j)*c=bo+18446744073709551616^i*(a*bv 18446744073709551616 (y.take j))/\(∀m,i+y.length<=m->out.getD m 0=0))->
   ∃ex s',D P L (.loop [1,5,6,7,8,20,21,22,27,28,29] HN) s=some (ex,s')/\∃tm c out,s'=⟨tm,[(0,.cells true true true 1 (out.map uc))],1,0⟩/\ex= .exit 2/\aj tm 1=w/\aj tm 5= .aC 0 0 n/\aj tm 6=ab i/\aj tm 8=uc c/\aj tm 20=v/\aj tm 21=ab x.length/\aj tm 22=ab i/\out.length=n/\c<18446744073709551616/\lo 18446744073709551616 out/\
    bv 18446744073709551616 out+18446744073709551616^(i+y.length)*c=bo+18446744073709551616^i*(a*bv 18446744073709551616 y)/\(∀m,i+y.length<=m->out.getD m 0=0):=by
 intro dq sq;generalize bk:aQ [1,5,6,7,8,20,21,22,27,28,29] sq=s0;revert bk s0 sq dq;apply di;rintro k s ⟨j,c,out,rfl,hk,hlen,hc,bf,aO,fL⟩;by_cases hj:j<y.length
 ·left
  have pn:(0:Nat)<18446744073709551616:=by decide
  have gy:=gg pn hy j;have mS:=gg pn bf (i+j);have ey:=hw.aM hj;have e3:=sJ (l:=out) (o:=i+j) (by omega);obtain ⟨q,hq⟩:∃q,q=y.getD j 0:=⟨_,rfl⟩;obtain ⟨o,ho⟩:∃o,o=out.getD (i+j) 0:=⟨_,rfl⟩;rw [<-hq] at gy ey;rw [<-ho] at mS e3;obtain ⟨m1,m2,m3⟩:=aq3 ha gy mS hc;have hpy:a*q<18446744073709551616*18446744073709551616:=by omega
  have f1:=Mb (P:=P) (f:=D P L) ma ha gy;have f2:=B1 (P:=P) (f:=D P L) fS (x:=a*q%18446744073709551616) (y:=o) (c:=0) (xp _ pn) mS (by omega);have f3:=B1 (P:=P) (f:=D P L) fS (x:=(a*q%18446744073709551616+o+0)%18446744073709551616) (y:=c) (c:=0) (xp _ pn) hc (by omega);obtain ⟨t,ht⟩:∃t,t=o+a*q+c:=⟨_,rfl⟩;have jT:=aoY (b:=18446744073709551616) (out:=out) (p:=18446744073709551616^(i+j)) (j:=i+j) (c:=c) (t:=t) (x:=a) (y:=q) (Y:=0) (ba:=bo+18446744073709551616^i*(a*bv 18446744073709551616 (y.take j))) ho (by omega) ht (by simpa using aO) rfl rfl;rw [m2,<-ht] at f3;rw [<-ht] at m1 m3;obtain ⟨d1,iC⟩:∃d,d=(a*q%18446744073709551616+o+0)/18446744073709551616:=⟨_,rfl⟩;obtain ⟨d2,gH⟩:∃d,d=((a*q%18446744073709551616+o+0)%18446744073709551616+c+0)/18446744073709551616:=⟨_,rfl⟩;rw [<-iC] at f2 m3;rw [<-gH] at f3 m3
  rw [show (uc 0)=AV.int .u64 0 from rfl] at f2 f3;obtain ⟨h1,iD⟩:∃d,d=a*q/18446744073709551616:=⟨_,rfl⟩;rw [<-iD] at f1 m3;have mP:h1+d1<18446744073709551616:=by omega
  have zt:h1+d1+d2<18446744073709551616:=by omega
  simp only [go_sem,ya,yi,HN,show (j:Int)<y.length by omega,ey,f1,wrapN (n:=i+j) (by omega),show (i:Int)+(j:Int)=((i+j:Nat):Int) from rfl,cp 0 0 (show i+j<n by omega),yg,e3,f2,f3,show (h1:Int)+(d1:Int)=((h1+d1:Nat):Int) from rfl,ahv mP,show ((h1+d1:Nat):Int)+(d2:Int)=((h1+d1+d2:Nat):Int) from rfl,ahv zt,jH (l:=out) (o:=i+j) (by omega)]
  refine ⟨_,k-1,rfl,by omega,j+1,h1+d1+d2,_,?_,by omega,by simp [hlen],zt,lK bf (x:=t%18446744073709551616) (i:=i+j) (xp _ pn),?_,fun m hm=>?_⟩
  ·rw [wrap64 (by omega) (by omega)];simp only [go_sem,ya,yb,av,au hv.pu,ax _ hv.pu,au hw.pu,ax _ hw.pu]<;>rfl
  ·rw [m3,show i+(j+1)=i+j+1 by omega,xc,iO,<-hq,xt a,xt (18446744073709551616^i)];simp only [xD,yZ] at jT;rw [jT,Nat.pow_add,<-Nat.add_assoc,xk (18446744073709551616^i),<-xk a,Nat.mul_comm a (18446744073709551616^j),xk]
  ·rw [n8 (by omega)];exact fL m hm
 ·right
  have:j=y.length:=by omega
  subst this;rw [xx] at aO;simp only [go_sem,ya,HN,show ¬(y.length:Int)<y.length by omega];exact ⟨_,_,rfl,by simp,_,c,out,rfl,rfl,by simp only [go_sem,ya],by simp only [go_sem,ya],by simp only [go_sem,ya],by simp only [go_sem,ya],by simp only [go_sem,ya],by simp only [go_sem,ya],by simp only [go_sem,ya],hlen,hc,bf,aO,fL⟩
def awU (ma:L.pure 143=some qH) (fS:L.pure 171=some nf) {v w:AV} {x y:List Nat} (hv:bO v x) (hw:bO w y) (hx:lo 18446744073709551616 x) (hy:lo 18446744073709551616 y) (lx:x.length<=49999999999) (ly:y.length<=49999999999) {n:Nat} (hn:n=x.length+y.length):
  ∀k s,(∃(i:Nat) (out:List Nat),aQ [1,5,20,21,22] s=⟨[(1,w),(5,.aC 0 0 n),(20,v),(21,ab x.length),(22,ab i)],[(0,.cells true true true 1 (out.map uc))],1,0⟩/\i+k=x.length/\out.length=n/\lo 18446744073709551616 out/\
    bv 18446744073709551616 out=bv 18446744073709551616 (x.take i)*bv 18446744073709551616 y/\(∀m,i+y.length<=m->out.getD m 0=0))->
   ∃ex s',D P L (.loop [1,5,20,21,22] HO) s=some (ex,s')/\∃tm out,s'=⟨tm,[(0,.cells true true true 1 (out.map uc))],1,0⟩/\ex= .exit 0/\aj tm 5= .aC 0 0 n/\out.length=n/\lo 18446744073709551616 out/\
    bv 18446744073709551616 out=bv 18446744073709551616 x*bv 18446744073709551616 y:=by
 intro dq sq;generalize bk:aQ [1,5,20,21,22] sq=s0;revert bk s0 sq dq;apply di;rintro k s ⟨i,out,rfl,hk,hlen,bf,aO,fL⟩;by_cases hi:i<x.length
 ·left
  have gx:=gg (show 0<18446744073709551616 by decide) hx i;have ex:=hv.aM hi;obtain ⟨a,ha⟩:∃a,a=x.getD i 0:=⟨_,rfl⟩;simp only [go_sem,ya,HO,hw.len,show (i:Int)<x.length by omega,ex];generalize hq:D P L (.loop [1,5,6,7,8,20,21,22,27,28,29] HN) _=q;obtain ⟨ex,s,rfl,tm,c,rh,rfl,rfl,t1,t5,t6,t8,t20,t21,t22,R5,hc,aAe,R6,Jm⟩:=bI hq (awT (P:=P) (L:=L) ma fS hv hw hx hy lx ly hn hi gx (bo:=bv 18446744073709551616 out) y.length)
   ⟨0,0,out,by simp only [go_sem,ya,yb,av,au hv.pu,ax _ hv.pu,au hw.pu,ax _ hw.pu]<;>rfl,by omega,hlen,by decide,bf,by simp [bv],fL⟩
  have hz:rh.getD (i+y.length) 0=0:=Jm _ (yo _);have bc:=ni (b:=18446744073709551616) (l:=rh) (i:=i+y.length) (x:=c) (by omega);rw [hz,xD,yZ,R6] at bc
  simp only [go_sem,ya,yi,av,t1,t5,t6,t8,t20,t21,t22,hw.len,au hv.pu,ax _ hv.pu,au hw.pu,ax _ hw.pu,wrapN (n:=i+y.length) (by omega),show (i:Int)+(y.length:Int)=((i+y.length:Nat):Int) from rfl,cp 0 0 (show i+y.length<n by omega),yg,jH (l:=rh) (o:=i+y.length) (by omega)];refine ⟨_,k-1,rfl,by omega,i+1,rh.set (i+y.length) c,?_,by omega,by simp [R5],lK aAe hc,?_,fun m hm=>?_⟩
  ·rw [wrap64 (by omega) (by omega)];simp only [go_sem,ya,yb,av,au hv.pu,ax _ hv.pu,au hw.pu,ax _ hw.pu]<;>rfl
  ·rw [bc,aO,iO,Nat.add_mul,<-ha,xk]
  ·rw [n8 (by omega)];exact Jm m (by omega)
 ·right
  have:i=x.length:=by omega
  subst this;rw [xx] at aO;simp only [go_sem,ya,HO,show ¬(x.length:Int)<x.length by omega];exact ⟨_,_,rfl,by simp,_,out,rfl,rfl,by simp only [go_sem,ya],hlen,bf,aO⟩
def aAf (h:Has P L 144 MS) (lZ:Has P L 166 Aw) (ma:L.pure 143=some qH) (fS:L.pure 171=some nf) {v w:AV} {x y:List Nat} (hv:bO v x) (hw:bO w y) (hx:lo 18446744073709551616 x) (hy:lo 18446744073709551616 y) (lx:x.length<=49999999999) (ly:y.length<=49999999999):
  ∃r out,ak P L 144 [v,w] r/\bO r out/\lo 18446744073709551616 out/\fW out/\bv 18446744073709551616 out=bv 18446744073709551616 x*bv 18446744073709551616 y:=by
 obtain ⟨n,hn⟩:∃n,n=x.length+y.length:=⟨_,rfl⟩;unfold ak;rw [aI h]
 simp only [go_sem,ya,yb,MS,hv.len,hw.len,wrapN (n:=n) (by omega),show (x.length:Int)+(y.length:Int)=((x.length+y.length:Nat):Int) from rfl,<-hn,CA (n:=n) _ (by omega)];generalize hq:D P L (.loop [1,5,20,21,22] HO) _=q;obtain ⟨ex,s,rfl,tm,o,rfl,rfl,t5,hlen,bf,aO⟩:=bI hq (awU (P:=P) (L:=L) ma fS hv hw hx hy lx ly hn x.length)
  ⟨0,yq n 0,by simp only [go_sem,ya,yb,av,au hv.pu,ax _ hv.pu,au hw.pu,ax _ hw.pu]<;>rfl,by omega,by simp,D7 (by decide) n,by rw [D8];simp [bv],fun m _=>BH n m⟩
 have hf:=mw true o;rw [hlen] at hf;obtain ⟨r,e1,hr⟩:=AI lZ hf (by omega);refine ⟨r,_,?_,hr,zW bf,zV _,by rw [zU];exact aO⟩
 simp only [go_sem,yb,av,t5,AH _ (n:=n) (l:=o) hlen true,e1,hr.shut,hr.fT]
end
end
end VE
