import Derived.Test.YtnilidoboioodaaGreatDoorTat
import Derived.Test.YtnilidoboioodaaGreatDoorTaf
import Derived.Test.YtnilidoboioodaaGreatDoorTaj
set_option linter.all false
set_option maxRecDepth 100000
open Bool renaming and_eq_true→yf,and_true→uW
open Go renaming IntKind→yV
open Int renaming ediv_emod_unique→uz,gcd→wE,gcd_dvd_left→uD,gcd_dvd_right→uo,mul_ediv_cancel'→tD,natAbs_ediv_of_dvd→vG,tdiv_eq_ediv_of_dvd→tc,tmod_eq_emod_of_nonneg→xQ
open List renaming cons_append→xd,drop→vJ,drop_eq_getElem_cons→yP,drop_eq_nil_of_le→xa,drop_zero→yy,getD_eq_getElem?_getD→y7,getElem?_eq_getElem→xh,length_append→yU,length_cons→yH,length_nil→yM,length_take→yQ,map_take→yaq,replicate→yC,take_length→xy,take_of_length_le→yD,take_succ_eq_append_getElem→xB
open Nat renaming add_zero→yX,beq→ym,beq_refl→wI,ble→yx,ble_eq_true_of_le→yu,blt→yF,div_le_self→wU,gcd→we,gcd_comm→uh,gcd_rec→ybg,le_of_ble_eq_true→yr,le_refl→yv,min_eq_left→xO,mod_eq_of_lt→yN,mod_lt→xq,mul_add→xt,mul_assoc→xf,mul_one→yo,mul_zero→xz,pow_le_pow_right→xA,pow_succ→y9,reduceAdd→yc,reduceEqDiff→ya,reduceMul→xk,strongRecOn→vI,zero_add→yj,zero_le→uY
open Option.some renaming injEq→yb
namespace VE
open Go (IntKind)
section
variable {P:aR} {L:Lib} {f:bZ} {tm:Env} {hp:Hp} {ct:Nat}
def acz (k:yV) (n:Int):cellsOf (.int k n)=[.int k n]:=(rfl)
def abf (b:Bool):cellsOf (.bool b)=[.bool b]:=(rfl)
def acA (s:List Nat):cellsOf (.str s)=[.str s]:=(rfl)
def abg:cellsOf .af=[.af]:=(rfl)
def acB (e:Bool) (n:Nat) (cs:List AV):cellsOf (.aq e n cs)=[.aq e n cs]:=(rfl)
def acC (id o n:Nat):cellsOf (.ay id o n)=[.ay id o n]:=(rfl)
def acD (id o:Nat):cellsOf (.ptr id o)=[.ptr id o]:=(rfl)
def aeF (g:Fr) (a b:List AV):cellsOf (.fn g a b)=[.fn g a b]:=(rfl)
def acE (cs:List AV):cellsOf (.agg cs)=cs:=(rfl)
def Um (k:yV) (n:Int):cw (.int k n)=true:=(rfl)
def aeG (b:Bool):cw (.bool b)=true:=(rfl)
def MD (s:List Nat):cw (.str s)=true:=(rfl)
def aeH:cw .af=true:=(rfl)
def agK (e:Bool) (n:Nat) (cs:List AV):cw (.aq e n cs)=true:=(rfl)
def agL (id o n:Nat):cw (.ay id o n)=true:=(rfl)
def agM (id o:Nat):cw (.ptr id o)=true:=(rfl)
def ajy (g:Fr) (a b:List AV):cw (.fn g a b)=true:=(rfl)
def aeI:cd []=true:=(rfl)
def So (v:AV) (r:List AV):cd (v::r)=(cw v&&cd r):=(rfl)
def acF:aC []=true:=(rfl)
def abh (v:AV) (r:List AV):aC (v::r)=(aX v&&aC r):=(rfl)
def ajz (id o:Nat):aX (.ptr id o)=false:=(rfl)
def ajA (id o n:Nat):aX (.ay id o n)=false:=(rfl)
def alA (g:Nat) (a b:List AV):aX (.fn (.f g) a b)=(aC a&&aC b):=(rfl)
def amQ (l:Nat) (a b:List AV):aX (.fn (.y l) a b)=false:=(rfl)
def ajB (cs:List AV):aX (.agg cs)=aC cs:=(rfl)
def ajC (cs:List AV):aX (.av cs)=aC cs:=(rfl)
def Cr (ct sz:Nat) (cs:List AV):Option (AV×Obj):=bif ym cs.length sz&&cd cs then some (.ptr ct 0,.cells true (aC cs) true sz cs) else none
def ajD (sz:Nat) (x:X):ck tm hp ct (.box sz x)=Cr ct sz (cellsOf (ao tm x)):=rfl
def alB {v:AV} (h:cw v=true):Cr ct 1 [v]=some (.ptr ct 0,.cells true (aX v&&true) true 1 [v]):=by
 simp [Cr,cd,aC,h]
def aZ {cs:List AV} {n:Nat} (hn:cs.length=n) (h:cd cs=true):Cr ct n cs=some (.ptr ct 0,.cells true (aC cs) true n cs):=by
 subst hn;simp [Cr,h]
def ie (hp:Hp) (ct id o sz:Nat) (new:List AV) (q:Option Obj):fj:=
 match q with
 | some (.cells true pu ex z cs)=>bif ym new.length sz&&yx (o+sz) cs.length&&cd new then some (.av [],a6 hp id (.cells true (pu&&aC new) ex z (over o new cs)),ct) else none
 | _=>none
def Y7 (hp:Hp) (ct sz:Nat) (p:AV) (new:List AV):fj:=match p with | .ptr id o=>ie hp ct id o sz new (ap hp id) | _=>none
def Td (sz:Nat) (x v:X):bT tm hp ct (.st sz x v)=Y7 hp ct sz (ao tm x) (cellsOf (ao tm v)):=rfl
def VX (sz id o:Nat) (new:List AV):Y7 hp ct sz (.ptr id o) new=ie hp ct id o sz new (ap hp id):=rfl
def amR {v u:AV} {id z:Nat} {pu ex:Bool} (h:cw v=true):ie hp ct id 0 1 [v] (some (.cells true pu ex z [u]))=some (.av [],a6 hp id (.cells true (pu&&(aX v&&true)) ex z [v]),ct):=by
 simp [ie,cd,aC,h,over];rfl
def B6 {new cs:List AV} {id o sz z:Nat} {pu ex:Bool} (h1:new.length=sz) (h2:o+sz<=cs.length) (h:cd new=true):
  ie hp ct id o sz new (some (.cells true pu ex z cs))=some (.av [],a6 hp id (.cells true (pu&&aC new) ex z (over o new cs)),ct):=by
 subst h1;simp [ie,h,yu h2]
def Jj (ct n sz:Nat) (q:Option (List AV)):Option (AV×Obj):=match q with | some cs=>bif ym cs.length (n*sz) then some (.ay ct 0 n,.cells true (aC cs) true sz cs) else none | none=>none
def agN (n sz:Nat) (z:List AV) (ps:List (Nat×Nat×X)):ck tm hp ct (.fB n sz z ps)=Jj ct n sz (fill tm z ps):=by
 simp only [ck,Jj];cases fill tm z ps<;>rfl
def mB {n sz:Nat} {cs:List AV} (h:cs.length=n*sz):Jj ct n sz (some cs)=some (.ay ct 0 n,.cells true (aC cs) true sz cs):=by
 simp [Jj,h]
def mK (tm:Env) (cs:List AV) (o sz:Nat) (new:List AV) (r:List (Nat×Nat×X)):Option (List AV):=
 bif ym new.length sz&&yx (o+sz) cs.length&&cd new then fill tm (over o new cs) r else none
def aeJ (cs:List AV):fill tm cs []=some cs:=rfl
def acG (cs:List AV) (o sz:Nat) (x:X) (r:List (Nat×Nat×X)):fill tm cs ((o,sz,x)::r)=mK tm cs o sz (cellsOf (ao tm x)) r:=rfl
def Un {cs:List AV} {o:Nat} {v:AV} {r:List (Nat×Nat×X)} (h1:o+1<=cs.length) (h2:cw v=true):mK tm cs o 1 [v] r=fill tm (over o [v] cs) r:=by
 simp [mK,cd,h2,yu h1]
def EE {cs new:List AV} {o sz:Nat} {r:List (Nat×Nat×X)} (h0:new.length=sz) (h1:o+sz<=cs.length) (h2:cd new=true):mK tm cs o sz new r=fill tm (over o new cs) r:=by
 subst h0;simp [mK,h2,yu h1]
def alC (v u:AV) (r:List AV):over 0 [v] (u::r)=v::r:=rfl
def alD (v a u:AV) (r:List AV):over 1 [v] (a::u::r)=a::v::r:=rfl
def alE (v a b u:AV) (r:List AV):over 2 [v] (a::b::u::r)=a::b::v::r:=rfl
def alF (v a b c u:AV) (r:List AV):over 3 [v] (a::b::c::u::r)=a::b::c::v::r:=rfl
def alG (v a b c d u:AV) (r:List AV):over 4 [v] (a::b::c::d::u::r)=a::b::c::d::v::r:=rfl
def alH (v a b c d e u:AV) (r:List AV):over 5 [v] (a::b::c::d::e::u::r)=a::b::c::d::e::v::r:=rfl
def qw (ct sz by':Nat) (zero:List AV) (l c:Option Nat):Option (AV×Obj):=
 match l,c with
 | some l,some c=>bif yx l c&&(yx c room&&(yx (c*by') room&&(ym zero.length sz&&cd zero))) then some (.ay ct 0 l,.cells true (aC zero) (ym l c) sz (yC l zero).flatten) else none
 | _,_=>none
def ajE (sz by':Nat) (z:List AV) (l c:X):ck tm hp ct (.lU sz by' z l c)=qw ct sz by' z (db (ao tm l)) (db (ao tm c)):=by
 simp only [ck,qw]
 grind
def E8 {sz by' l:Nat} {z:List AV} (h1:l<=1099511627776) (h2:l*by'<=1099511627776) (h3:z.length=sz) (h4:cd z=true):
  qw ct sz by' z (some l) (some l)=some (.ay ct 0 l,.cells true (aC z) true sz (yC l z).flatten):=by
 subst h3;simp [qw,h4,yu (show l<=room from h1),yu (show l*by'<=room from h2),yu (yv l)]
def sG (hp:Hp) (ct sz by':Nat) (s:AV) (src:Option (Nat×List AV)):fj:=
 match src with
 | none=>none
 | some (m,new)=>
  match s with
  | .af=>
   bif ym m 0 then some (.af,hp,ct)
   else bif yx m room&&(yx (m*by') room&&yF 0 sz) then some (.ay ct 0 m,(ct,.cells true (aC new) false sz new)::hp,ct+1) else none
  | .aq true n cs=>
   bif ym m 0 then some (.aq true n cs,hp,ct)
   else bif yx (n+m) room&&(yx ((n+m)*by') room&&(ym cs.length (n*sz)&&yF 0 sz)) then some (.ay ct 0 (n+m),(ct,.cells true (aC cs&&aC new) false sz (cs++new))::hp,ct+1) else none
  | .ay id o n=>
   match ap hp id with
   | some (.cells true pu _ z cs)=>
    bif ym z sz&&(yx (n+m) room&&(yx ((n+m)*by') room&&(yx (o+n*sz) cs.length&&(yF 0 sz&&cd new)))) then
     some (.ay ct 0 (n+m),(ct,.cells true (pu&&aC new) false sz (slice o (n*sz) cs++new))::dc hp id,ct+1)
    else none
   | _=>none
  | _=>none
def acH (sz by':Nat) (s x:X):bT tm hp ct (.cD sz by' s x)=sG hp ct sz by' (ao tm s) (fW hp sz (ao tm x)):=by
 simp only [bT,sG]
 cases fW hp sz (ao tm x) with
 | none=>rfl
 | some q=>obtain ⟨m,new⟩:=q;cases ao tm s<;>rfl
def abi (sz id o n:Nat):fW hp sz (.ay id o n)=jt hp sz (.ay id o n):=rfl
def Rx (sz:Nat) (e:Bool) (n:Nat) (cs:List AV):fW hp sz (.aq e n cs)=jt hp sz (.aq e n cs):=rfl
def aaC (sz:Nat):fW hp sz .af=some (0,[]):=rfl
def CU (o n sz:Nat) (q:Option Obj):Option (Nat×List AV):=match q with | some (.cells _ _ _ _ cs)=>bif yx (o+n*sz) cs.length then some (n,slice o (n*sz) cs) else none | _=>none
def aaD (sz id o n:Nat):jt hp sz (.ay id o n)=CU o n sz (ap hp id):=rfl
def alI (rw pu ex:Bool) (z:Nat) (v:AV):CU 0 1 1 (some (.cells rw pu ex z [v]))=some (1,[v]):=rfl
def Uo {rw pu ex:Bool} {z n sz:Nat} {cs:List AV} (h:cs.length=n*sz):CU 0 n sz (some (.cells rw pu ex z cs))=some (n,cs):=by
 simp only [CU,yj,<-h,yu (yv cs.length),yp,slice,yy,xy]
def js {sz by':Nat} {new:List AV} {m:Nat} (hm:0<m) (h1:m<=1099511627776) (h2:m*by'<=1099511627776) (hs:0<sz):
  sG hp ct sz by' .af (some (m,new))=some (.ay ct 0 m,(ct,.cells true (aC new) false sz new)::hp,ct+1):=by
 have e1:ym m 0=false:=fM (by omega);have e2:yF 0 sz=true:=yu hs;simp [sG,e1,e2,yu (show m<=room from h1),yu (show m*by'<=room from h2)]
def iq {sz by' id n m:Nat} {pu ex:Bool} {cs new:List AV} (hg:ap hp id=some (.cells true pu ex sz cs)) (hl:cs.length=n*sz) (h1:n+m<=1099511627776) (h2:(n+m)*by'<=1099511627776) (hs:0<sz) (ho:cd new=true):
  sG hp ct sz by' (.ay id 0 n) (some (m,new))=some (.ay ct 0 (n+m),(ct,.cells true (pu&&aC new) false sz (cs++new))::dc hp id,ct+1):=by
 have e2:yF 0 sz=true:=yu hs;simp only [sG,hg];simp [e2,ho,yu (show n+m<=room from h1),yu (show (n+m)*by'<=room from h2),<-hl,slice,yu (yv cs.length)]
def WO (n:Nat) (g:Nat) (cap:List AV) (q:Option (List AV×Hp)):Option (AV×Hp):=match q with | some (first,hp)=>(match cm n hp cap with | some (Jo,kR)=>some (.fn (.f g) first Jo,kR) | none=>none) | none=>none
def WQ (g:Nat) (first:List AV) (q:Option (List AV×Hp)):Option (AV×Hp):=match q with | some (cap,hp)=>some (.fn (.f g) first cap,hp) | none=>none
def ajF (n g:Nat) (first cap:List AV):freeze (n+1) hp (.fn (.f g) first cap)=WO n g cap (cm n hp first):=rfl
def ajG (n g:Nat) (first cap:List AV):WO n g cap (some (first,hp))=WQ g first (cm n hp cap):=rfl
def ajH (g:Nat) (first cap:List AV):WQ g first (some (cap,hp))=some (.fn (.f g) first cap,hp):=rfl
def WR (o:Nat) (q:Option (Bool×Nat×List AV×Hp)):Option (AV×Hp):=match q with | some (_,_,cs,hp)=>some (.bR (cs.drop o),hp) | none=>none
def agO (n id o:Nat):freeze (n+1) hp (.ptr id o)=WR o (n5 n hp id):=rfl
def ajI (o:Nat) (ex:Bool) (sz:Nat) (cs:List AV):WR o (some (ex,sz,cs,hp))=some (.bR (cs.drop o),hp):=rfl
def jK (o k:Nat) (q:Option (Bool×Nat×List AV×Hp)):Option (AV×Hp):=
 match q with
 | some (ex,sz,cs,hp)=>bif yx (o+k*sz) cs.length then some (.aq (ex&&yF 0 sz&&ym (o+k*sz) cs.length) k (slice o (k*sz) cs),hp) else none
 | none=>none
def agP (n id o k:Nat):freeze (n+1) hp (.ay id o k)=jK o k (n5 n hp id):=rfl
def ll {sz k:Nat} {cs:List AV} (ex:Bool) (hl:cs.length=k*sz) (hs:0<sz):jK 0 k (some (ex,sz,cs,hp))=some (.aq ex k cs,hp):=by
 have e2:yF 0 sz=true:=yu hs;simp [jK,<-hl,e2,slice,yu (yv cs.length)]
def Oa (n id:Nat) (hp:Hp) (q:Option Obj):Option (Bool×Nat×List AV×Hp):=
 match q with
 | some (.cells rw pu ex sz cs)=>
  bif pu then some (ex,sz,cs,bif rw then a6 hp id (.cells false true ex sz cs) else hp)
  else match cm n hp cs with
   | some (b8,an)=>some (ex,sz,b8,a6 an id (.cells false false ex sz cs))
   | none=>none
 | _=>none
def agQ (n id:Nat):n5 (n+1) hp id=Oa n id hp (ap hp id):=rfl
def ajJ (n id:Nat) (ex:Bool) (sz:Nat) (cs:List AV):Oa n id hp (some (.cells true true ex sz cs))=some (ex,sz,cs,a6 hp id (.cells false true ex sz cs)):=rfl
def ajK (n id:Nat) (ex:Bool) (sz:Nat) (cs:List AV):Oa n id hp (some (.cells false true ex sz cs))=some (ex,sz,cs,hp):=rfl
def bY (n:Nat) (cs:List AV) (h:cm n hp cs=some (cs,hp)):freeze (n+1) hp (.agg cs)=some (.agg cs,hp):=by
 simp only [freeze,h]
def Lw {id n sz:Nat} {ex:Bool} {cs:List AV} (hg:ap hp id=some (.cells true true ex sz cs)) (hl:cs.length=n*sz) (hs:0<sz):result hp (.ay id 0 n)=some (.cx ex sz n cs):=by
 have e2:yF 0 sz=true:=yu hs;simp only [result,pL,hg,yj,<-hl,yu (yv cs.length),yp,e2,uW,slice,yy,xy]
 simp
def acI {k id n sz:Nat} {ex:Bool} {cs:List AV} (hg:ap hp id=some (.cells true true ex sz cs)) (hl:cs.length=n*sz) (hs:0<sz):pL k hp (.ay id 0 n)=some (.cx ex sz n cs,dc hp id):=by
 have e2:yF 0 sz=true:=yu hs;simp only [pL,hg,yj,<-hl,yu (yv cs.length),yp,e2,uW,slice,yy,xy]
 simp
def Z9 {id n sz:Nat} {ex:Bool} {cs:List AV} {k:yV} {b:Int} (hg:ap hp id=some (.cells true true ex sz cs)) (hl:cs.length=n*sz) (hs:0<sz):result hp (.av [.ay id 0 n,.int k b])=some (.av [.cx ex sz n cs,.int k b]):=by
 have h1:IR [.ay id 0 n,.int k b]=some [id]:=rfl;simp only [result,h1,zP,acI hg hl hs];rfl
def ZW (b:Bool):result hp (.av [.af,.bool b])=some (.av [.af,.bool b]):=rfl
def ZX (k:yV) (b:Int):result hp (.av [.af,.int k b])=some (.av [.af,.int k b]):=rfl
def ZY (e:Bool) (n:Nat) (cs:List AV) (k:yV) (b:Int):result hp (.av [.aq e n cs,.int k b])=some (.av [.aq e n cs,.int k b]):=rfl
def acJ (s:St):mG [] s=some s:=rfl
def PJ (t:Nat) (r:List Nat) (tm:Env) (ct base:Nat) (q:Option (AV×Hp)):Option St:=match q with | some (v,hp)=>mG r ⟨(t,v)::tm,hp,ct,base⟩ | none=>none
def abj (t:Nat) (r:List Nat) (tm:Env) (hp:Hp) (ct base:Nat):mG (t::r) ⟨tm,hp,ct,base⟩=PJ t r tm ct base (freeze deep hp (ah tm t)):=by
 simp only [mG,PJ];cases freeze deep hp (ah tm t)<;>rfl
def alJ (t:Nat) (r:List Nat) (tm:Env) (ct base:Nat) (v:AV) (hp:Hp):PJ t r tm ct base (some (v,hp))=mG r ⟨(t,v)::tm,hp,ct,base⟩:=rfl
end
attribute [go_sem] ZW ZX ZY acz abf acA abg acB acC acD aeF acE Um aeG MD aeH agK agL agM ajy aeI So
 acF abh ajz ajA alA amQ ajB ajC ajD alB Td VX amR agN aeJ acG alC alD alE alF alG alH ajE
 acH abi Rx aaC aaD alI ajF ajG ajH agO ajI agP ll mB Un agQ ajJ ajK acJ abj alJ
 Bool.and_false Bool.false_and yy eq_self
def Tf:∀hp:Hp,gY 0 hp=[]
 | []=>rfl
 | (id,o)::r=>by
  have:yF id 0=false:=rfl
  simp only [gY,this,yI,Tf r]
def UO (f:Nat->Option Nat):∀hp:Hp,jY 0 f hp=[]
 | []=>rfl
 | (id,o)::r=>by
  have:yF id 0=false:=rfl
  simp only [jY,this,yI,UO f r]
def pos (seen:List Nat):Nat->Option Nat:=fun id=>jE id seen 0
def Ob (tm:Env) (hp:Hp) (seen:List Nat):St:=⟨jf (pos seen) tm,jb hp (pos seen) seen 0 [],seen.length,0⟩
def pn (hp:Hp):Nat->List Nat->List Nat->List Nat:=reach hp 0
def aA (live:List Nat) (tm:Env) (hp:Hp) (ct:Nat):aV live ⟨tm,hp,ct,0⟩=Ob (dd tm live) hp (pn hp 100000 (hZ (dd tm live)) []):=by
 have e:∀seen,ja 0 seen=pos seen:=fun seen=>by
  funext id
  have:yF id 0=false:=rfl
  simp only [ja,this,yI,pos]
 simp only [aV,Tf,List.append_nil,e,UO,Ob,pn,yj]
def acK:hZ []=[]:=rfl
def abk (i:Nat) (v:AV) (r:Env):hZ ((i,v)::r)=refs v++hZ r:=rfl
def aeK (k:yV) (n:Int):refs (.int k n)=[]:=rfl
def acL (b:Bool):refs (.bool b)=[]:=rfl
def aeL (s:List Nat):refs (.str s)=[]:=rfl
def acM:refs .af=[]:=rfl
def aeM (e:Bool) (n:Nat) (cs:List AV):refs (.aq e n cs)=[]:=rfl
def acN (cs:List AV):refs (.bR cs)=[]:=rfl
def abl:refs .undef=[]:=rfl
def aeN (id o:Nat):refs (.ptr id o)=[id]:=rfl
def aeO (id o n:Nat):refs (.ay id o n)=[id]:=rfl
def agR (g:Nat) (a b:List AV):refs (.fn (.f g) a b)=hX a++hX b:=rfl
def ajL (l:Nat) (a b:List AV):refs (.fn (.y l) a b)=[l]:=rfl
def aeP (cs:List AV):refs (.agg cs)=hX cs:=rfl
def acO:hX []=[]:=rfl
def abm (v:AV) (r:List AV):hX (v::r)=refs v++hX r:=rfl
def JW (hp:Hp) (n id:Nat) (gL seen:List Nat) (q:Option Obj):List Nat:=match q with | some o=>pn hp n (mF o++gL) (seen++[id]) | none=>pn hp n gL seen
def JX (hp:Hp) (n id:Nat) (gL seen:List Nat) (b:Bool):List Nat:=bif b then pn hp n gL seen else JW hp n id gL seen (ap hp id)
def agS (hp:Hp) (n:Nat) (seen:List Nat):pn hp (n+1) [] seen=seen:=rfl
def aeQ (hp:Hp) (n id:Nat) (gL seen:List Nat):pn hp (n+1) (id::gL) seen=JX hp n id gL seen (jD id seen):=by
 have:yF id 0=false:=rfl
 simp only [pn,reach,this,Bool.false_or,JX,JW]
 cases jD id seen with
 | true=>rfl
 | false=>simp only [yI];cases ap hp id<;>rfl
def ajM (hp:Hp) (n id:Nat) (gL seen:List Nat):JX hp n id gL seen true=pn hp n gL seen:=rfl
def ajN (hp:Hp) (n id:Nat) (gL seen:List Nat):JX hp n id gL seen false=JW hp n id gL seen (ap hp id):=rfl
def ajO (hp:Hp) (n id:Nat) (gL seen:List Nat) (o:Obj):JW hp n id gL seen (some o)=pn hp n (mF o++gL) (seen++[id]):=rfl
def aeR (i:Nat):jD i []=false:=rfl
def aeS (i:Nat) (r:List Nat):jD i (i::r)=true:=by simp only [jD,wI,yp]
def acP {i j:Nat} (r:List Nat) (h:j≠i):jD i (j::r)=jD i r:=by simp only [jD,fM h,yI]
def agT (rw ex:Bool) (sz:Nat) (cs:List AV):mF (.cells rw true ex sz cs)=[]:=rfl
def agU (rw ex:Bool) (sz:Nat) (cs:List AV):mF (.cells rw false ex sz cs)=hX cs:=rfl
def aeT (tm:Env) (ps:List Nat) (a b:VC) (st:Nat) (pe:qc):mF (.lp tm ps a b st pe)=hZ tm:=rfl
def agV (i:Nat) (r:List Nat) (k:Nat):jE i (i::r) k=some k:=by simp only [jE,wI,yp]
def aeU {i j:Nat} (r:List Nat) (k:Nat) (h:j≠i):jE i (j::r) k=jE i r (k+1):=by simp only [jE,fM h,yI]
def VY (o:Nat) (q:Option Nat):AV:=match q with | some j=> .ptr j o | none=> .undef
def VZ (o n:Nat) (q:Option Nat):AV:=match q with | some j=> .ay j o n | none=> .undef
def aeV (s:List Nat):jf (pos s) []=[]:=rfl
def acQ (s:List Nat) (i:Nat) (v:AV) (r:Env):jf (pos s) ((i,v)::r)=(i,bJ (pos s) v)::jf (pos s) r:=rfl
def agW (s:List Nat) (k:yV) (n:Int):bJ (pos s) (.int k n)= .int k n:=rfl
def aeW (s:List Nat) (b:Bool):bJ (pos s) (.bool b)= .bool b:=rfl
def agX (s:List Nat) (t:List Nat):bJ (pos s) (.str t)= .str t:=rfl
def aeX (s:List Nat):bJ (pos s) .af= .af:=rfl
def agY (s:List Nat) (e:Bool) (n:Nat) (cs:List AV):bJ (pos s) (.aq e n cs)= .aq e n cs:=rfl
def aeY (s:List Nat) (cs:List AV):bJ (pos s) (.bR cs)= .bR cs:=rfl
def acR (s:List Nat):bJ (pos s) .undef= .undef:=rfl
def agZ (s:List Nat) (id o:Nat):bJ (pos s) (.ptr id o)=VY o (jE id s 0):=rfl
def ag0 (s:List Nat) (id o n:Nat):bJ (pos s) (.ay id o n)=VZ o n (jE id s 0):=rfl
def ajP (s:List Nat) (g:Nat) (a b:List AV):bJ (pos s) (.fn (.f g) a b)= .fn (.f g) (eG (pos s) a) (eG (pos s) b):=rfl
def ag1 (s:List Nat) (cs:List AV):bJ (pos s) (.agg cs)= .agg (eG (pos s) cs):=rfl
def aeZ (s:List Nat):eG (pos s) []=[]:=rfl
def acS (s:List Nat) (v:AV) (r:List AV):eG (pos s) (v::r)=bJ (pos s) v::eG (pos s) r:=rfl
def ag2 (o j:Nat):VY o (some j)= .ptr j o:=rfl
def ag3 (o n j:Nat):VZ o n (some j)= .ay j o n:=rfl
def Oc (hp:Hp) (f:Nat->Option Nat) (r:List Nat) (k:Nat) (acc:Hp) (q:Option Obj):Hp:=match q with | some o=>jb hp f r (k+1) ((k,jC f o)::acc) | none=>jb hp f r (k+1) acc
def acT (hp:Hp) (s:List Nat) (k:Nat) (acc:Hp):jb hp (pos s) [] k acc=acc:=rfl
def abn (hp:Hp) (s:List Nat) (id:Nat) (r:List Nat) (k:Nat) (acc:Hp):jb hp (pos s) (id::r) k acc=Oc hp (pos s) r k acc (ap hp id):=by
 simp only [jb,Oc];cases ap hp id<;>rfl
def ajQ (hp:Hp) (s r:List Nat) (k:Nat) (acc:Hp) (o:Obj):Oc hp (pos s) r k acc (some o)=jb hp (pos s) r (k+1) ((k,jC (pos s) o)::acc):=rfl
def ajR (f:Nat->Option Nat) (rw ex:Bool) (sz:Nat) (cs:List AV):jC f (.cells rw true ex sz cs)= .cells rw true ex sz cs:=rfl
def ajS (f:Nat->Option Nat) (rw ex:Bool) (sz:Nat) (cs:List AV):jC f (.cells rw false ex sz cs)= .cells rw false ex sz (eG f cs):=rfl
def ag4 (f:Nat->Option Nat) (tm:Env) (ps:List Nat) (a b:VC) (st:Nat) (pe:qc):jC f (.lp tm ps a b st pe)= .lp (jf f tm) ps a b st pe:=rfl
def ag5 (tm:Env) (hp:Hp) (seen:List Nat):Ob tm hp seen=⟨jf (pos seen) tm,jb hp (pos seen) seen 0 [],seen.length,0⟩:=rfl
attribute [go_sem] acK abk aeK acL aeL acM aeM acN abl aeN aeO agR ajL aeP acO abm agS aeQ ajM ajN ajO
 aeR aeS acP agT agU aeT agV aeU aeV acQ agW aeW agX aeX agY aeY acR agZ ag0 ajP ag1 aeZ acS ag2 ag3
 acT abn ajQ ajR ajS ag4 ag5 yH yM
section
variable {P:aR} {L:Lib}
def ae0 {α:Type} {p:α->Bool} {l:List α} {i:Nat} (h:i<l.length):(l.drop i).any p=(p l[i]||(l.drop (i+1)).any p):=by
 rw [yP h,List.any_cons]
def Sp {k:yV} {n:Int} (h:0<=n):db (.int k n)=some n.toNat:=by
 cases n with
 | ofNat n=>rfl
 | negSucc n=>exact absurd h (by simp)
def bL (k id o:Nat):Fg k (.ptr id o)=some (.ptr id (o+k)):=rfl
def cB {α:Type} (a:α) (l:List α):vJ 1 (a::l)=l:=rfl
def alK {α:Type} (a b:α) (l:List α):vJ 2 (a::b::l)=l:=rfl
def V1 {α:Type} (a b c:α) (l:List α):vJ 3 (a::b::c::l)=l:=rfl
abbrev Nm (n:Int):AV:= .agg [aa n,.af]
def ol (hp:Hp) (ct id:Nat) (a:Int) (x y:AV):ie hp ct id 0 2 [.int .i64 a,.af] (some (.cells true true true 2 [x,y]))=some (.av [],a6 hp id (.cells true true true 2 [.int .i64 a,.af]),ct):=rfl
def c8 (b:Bool):F3 false (some b)=some (.bool b):=by cases b<;>rfl
def UP (f:bZ) (tm:Env) (hp:Hp) (ct:Nat) (x y:X):aW P L f tm hp ct (.mn [x,y])=rd hp ct (min2 (ao tm x) (ao tm y)):=by
 simp only [aW,rd,a7,cX,r5]
 grind
def E9 (f:bZ) (tm:Env) (hp:Hp) (ct:Nat) (x y:X):aW P L f tm hp ct (.mx [x,y])=rd hp ct (max2 (ao tm x) (ao tm y)):=by
 simp only [aW,rd,a7,cX,r5]
 grind
def Tg (k k':yV) (x y:Int):min2 (.int k x) (.int k' y)=some (.int k (if y<x then y else x)):=rfl
def Es (k k':yV) (x y:Int):max2 (.int k x) (.int k' y)=some (.int k (if y>x then y else x)):=rfl
def cF (n:Int):Int:=if n<0 then -1 else if n=0 then 0 else 1
def ajT (n:Int):(if (if n<1 then n else 1)> -1 then (if n<1 then n else 1) else -1)=cF n:=by
 unfold cF
 grind
def n117 (h:Has P L 117 JA) (n:Int):ai P L 117 [aa n] (Nm n):=by
 unfold ai;rw [aK h];simp only [go_sem,ya,yc,Nat.reduceLeDiff,JA,aZ,yj,ol];rfl
def mL (hp:Hp) (p q:Bool):ib .b (.bool p) (.bool q)=some (p==q):=rfl
def gX {n:Nat} {sp:List AV->Option AV} (h:L.pure n=some sp) {f:bZ} (aj:List AV):bA P L f n aj=sp aj:=by simp only [bA,h]
abbrev Y8 (n:Int):AV:= .int .u64 n
def alL {n:Int} (h1:0<=n) (h2:n<18446744073709551616):IntKind.wrap .u64 n=n:=by
 simp only [IntKind.wrap,IntKind.signed,IntKind.bits]
 grind
def UQ (n:Int):kL (.toInt .u64) (aa n)=some (Y8 (IntKind.wrap .u64 n)):=rfl
def I1 (n:Int):kL (.toInt .i64) (Y8 n)=some (aa (IntKind.wrap .i64 n)):=rfl
def Fa (b:Bool):F3 true (some b)=some (.bool (!b)):=by cases b<;>rfl
def bQ (a b:AV) (r:List AV):fQ 2 true (a::b::r)=some (.agg [a,b]):=rfl
def iM (a b c d:AV) (r:List AV):fQ 4 true (a::b::c::d::r)=some (.agg [a,b,c,d]):=rfl
def acU {a b:Int} (hb:0<b):(a.tmod b<0->a/b=a.tdiv b-1/\a%b=a.tmod b+b)/\(¬a.tmod b<0->a/b=a.tdiv b/\a%b=a.tmod b):=by
 have h1:=Int.mul_tdiv_add_tmod a b;have h2:a.tmod b<b:=Int.tmod_lt_of_pos a hb;have h3: -b<a.tmod b:=Int.lt_tmod_of_pos a hb;refine ⟨fun h=>(uz hb).2 ⟨?_,?_,?_⟩,fun h=>(uz hb).2 ⟨?_,?_,?_⟩⟩
 ·grind
 ·omega
 ·omega
 ·omega
 ·omega
 ·omega
def ae1 (a b:Nat) (hb:b≠0):we b (a%b)=we a b:=by
 rw [uh b,<-ybg,uh]
end
def cS (a b:Int):Int:=a/(wE a b:Nat)
def cY (a b:Int):Int:=b/(wE a b:Nat)
def II {a b:Int} (hb:0<b):(0:Int)<(wE a b:Nat):=by
 have:=Int.gcd_pos_of_ne_zero_right a (show b≠0 by omega)
 omega
def ajU (a b:Int):a=(wE a b:Nat)*cS a b:=(tD (uD a b)).symm
def ajV (a b:Int):b=(wE a b:Nat)*cY a b:=(tD (uo a b)).symm
def Et {a b:Int} (hb:0<b):0<cY a b:=by
 have h1:=II (a:=a) hb;have h2:=ajV a b;rcases Int.lt_trichotomy (cY a b) 0 with h | h | h
 ·have:=Int.mul_neg_of_pos_of_neg h1 h;omega
 ·grind
 ·exact h
def Th (a b:Int):(cS a b).natAbs<=a.natAbs:=by
 unfold cS;rw [vG (uD a b)];exact wU _ _
def Ti (a b:Int):(cY a b).natAbs<=b.natAbs:=by
 unfold cY;rw [vG (uo a b)];exact wU _ _
def mO (a b:Int):List Nat:=if cY a b=1 then aS (cS a b) else aS (cS a b)++[47]++aS (cY a b)
def V2 {a b:Nat} (h:¬a<b):yF a b=false:=by
 cases hb:yF a b with
 | false=>rfl
 | true=>exact absurd (yr hb) (by omega)
def ME:∀(f n:Nat) (acc:List Nat),n<f->kD f n acc=kD f n []++acc
 | 0,_,_,h=>by omega
 | f+1,n,acc,h=>by
  simp only [kD];by_cases h1:n<10
  ·rw [show yF n 10=true from yu h1];rfl
  ·rw [show yF n 10=false from V2 (by omega)];rw [ME f (n/10) _ (by omega),ME f (n/10) [48+n%10] (by omega)]
   simp
def LS {f n:Nat} (h:n<10):kD (f+1) n []=[48+n]:=by
 simp only [kD];rw [show yF n 10=true from yu h];rfl
def MF {f n:Nat} (h:¬n<10) (hf:n<=f):kD (f+1) n []=kD f (n/10) []++[48+n%10]:=by
 rw [<-ME f (n/10) _ (by omega)];simp only [kD];rw [show yF n 10=false from V2 (by omega)];rfl
def ae2:∀(n f:Nat),n<f->kD f n []=aw n:=by
 intro n
 induction n using vI with
 | _ n ih=>
  intro f hf;obtain ⟨g,rfl⟩:∃g,f=g+1:=⟨f-1,by omega⟩;by_cases h:n<10
  ·rw [LS h];unfold aw;rw [LS h]
  ·rw [MF h (by omega),ih (n/10) (by omega) g (by omega)];unfold aw;rw [MF h (yv n),ih (n/10) (by omega) n (by omega)];rfl
def mo {n:Nat} (h:n<10):aw n=[48+n]:=LS h
def nB {n:Nat} (h:¬n<10):aw n=aw (n/10)++[48+n%10]:=by
 rw [show aw n=kD (n+1) n [] from rfl,MF h (yv n),ae2 (n/10) n (by omega)]
def oc:∀{k n:Nat},n<10^(k+1)->(aw n).length<=k+1
 | 0,n,h=>by rw [mo (by simpa using h)];simp
 | k+1,n,h=>by
  by_cases h1:n<10
  ·rw [mo h1];simp
  ·rw [nB h1,yU]
   have:n/10<10^(k+1):=by
    grind
   have:=oc this
   grind
def HO {n:Nat} (h:n<18446744073709551616):(aw n).length<=20:=oc (k:=19) (by omega)
def jQ (n:Nat):aS (n:Int)=aw n:=rfl
def lm {n:Int} (h:n<0):aS n=45::aw n.natAbs:=by
 cases n with
 | ofNat n=>exact absurd h (by simp)
 | negSucc n=>rfl
def bE:List Nat->Nat
 | []=>0
 | b::r=>if b=47 then 0 else bE r+1
def aaE {s:List Nat} {i:Nat} (h:i<s.length):bE (s.drop i)=if s[i]=47 then 0 else bE (s.drop (i+1))+1:=by
 rw [yP h];rfl
def Ek:∀s:List Nat,bE s<=s.length
 | []=>yv _
 | b::r=>by
  unfold bE
  have:=Ek r
  grind
def cM:List Nat->Bool
 | []=>true
 | b::r=>yx 48 b&&yx b 57&&cM r
def Hx:∀(a b:List Nat),cM (a++b)=(cM a&&cM b)
 | [],b=>by simp [cM]
 | x::a,b=>by simp [cM,Hx a b,Bool.and_assoc]
def El (n:Nat):cM (aw n)=true:=by
 induction n using vI with
 | _ n ih=>
  by_cases h:n<10
  ·rw [mo h];simp [cM];omega
  ·rw [nB h,Hx,ih (n/10) (by omega)];simp [cM];omega
def Hy:∀{s:List Nat} (r:List Nat),cM s=true->bE (s++r)=s.length+bE r
 | [],r,_=>by simp
 | b::s,r,h=>by
  simp only [cM,yf] at h;have h1:=yr h.1.1;simp only [xd,bE,yH];rw [yE (by omega),Hy r h.2];omega
def Hz:∀(l:List Nat) (a d:Nat),d<10->cr (l++[48+d]) a=(cr l a).map (fun v=>10*v+d)
 | [],a,d,h=>by
  simp only [List.nil_append,cr];rw [show yx 48 (48+d)=true from yu (by omega),show yx (48+d) 57=true from yu (by omega)]
  simp
 | b::l,a,d,h=>by
  simp only [xd,cr]
  cases (yx 48 b&&yx b 57) with
  | true=>exact Hz l _ d h
  | false=>rfl
def Bx (n:Nat):cr (aw n) 0=some n:=by
 induction n using vI with
 | _ n ih=>
  by_cases h:n<10
  ·rw [mo h]
   have:=Hz [] 0 n h
   simpa [cr] using this
  ·rw [nB h,Hz _ _ _ (by omega),ih (n/10) (by omega)]
   simp;omega
def acV {s:List Nat} {i a v:Nat} (h:i<s.length) (hv:cr (s.drop i) a=some v):48<=s[i]/\s[i]<=57/\cr (s.drop (i+1)) (10*a+(s[i]-48))=some v:=by
 rw [yP h] at hv;simp only [cr] at hv
 cases hb:(yx 48 s[i]&&yx s[i] 57) with
 | false=>rw [hb] at hv;cases hv
 | true=>
  simp_all
def gg:Nat->Nat->List Nat
 | 0,_=>[]
 | k+1,n=>gg k (n/10)++[48+n%10]
def Mj:∀k n,(gg k n).length=k
 | 0,_=>rfl
 | k+1,n=>by simp [gg,Mj k]
def Im:∀(k m r:Nat),0<m->r<10^k->aw (m*10^k+r)=aw m++gg k r
 | 0,m,r,_,h=>by simp at h;subst h;simp [gg]
 | k+1,m,r,hm,h=>by
  have h1:m*10^(k+1)+r=(m*10^k)*10+r:=by grind
  have hp:0<m*10^k:=Nat.mul_pos hm (Nat.pow_pos (by decide));have e1:(m*10^(k+1)+r)/10=m*10^k+r/10:=by omega
  have e2:(m*10^(k+1)+r)%10=r%10:=by omega
  rw [nB (by omega),e1,e2,Im k m (r/10) hm (by rw [y9] at h;omega)];simp [gg]
def Tj:∀(k r a:Nat),r<10^k->cr (gg k r) a=some (a*10^k+r)
 | 0,r,a,h=>by simp at h;subst h;simp [gg,cr]
 | k+1,r,a,h=>by
  rw [gg,Hz _ _ _ (xq _ (by decide)),Tj k (r/10) a (by omega)];simp only [Option.map_some,yb,y9]
  grind
def ae3 {m:Nat} (h:1000000000<=m):aw m=aw (m/1000000000)++gg 9 (m%1000000000):=by
 have:=Im 9 (m/1000000000) (m%1000000000) (by omega) (by omega)
 grind
def fP (s:List Nat) (l h:Option Nat):Option AV:=
 match l,h with
 | some l,some h=>bif yx l h&&yx h s.length then some (.str ((s.take h).drop l)) else none
 | _,_=>none
def dK (hp:Hp) (s:List Nat) (tm:Env) (lo hi:Option X):eB hp .str (.str s) tm lo hi=fP s (cL tm 0 lo) (cL tm s.length hi):=by
 unfold fP;simp only [eB]
 grind
def dW (tm:Env) (d:Nat):cL tm d none=some d:=rfl
def c7 (tm:Env) (d:Nat) (x:X):cL tm d (some x)=db (ao tm x):=rfl
def jv {s:List Nat} {l h:Nat} (h1:l<=h) (h2:h<=s.length):fP s (some l) (some h)=some (.str ((s.take h).drop l)):=by
 simp [fP,yu h1,yu h2]
def fc {a b:List Nat} (h:a.length+b.length<=9223372036854775807):binOp .add (.str a) (.str b)=some (.str (a++b)):=by
 show Ff .add a b=_
 simp only [Ff,yu h,yp]
def ag6 (k:yV) (n:Int):kL (.toInt .i64) (.int k n)=some (aa (IntKind.wrap .i64 n)):=rfl
def jS (a b:List Nat):binOp .eql (.str a) (.str b)=some (.bool (bV a b)):=rfl
def nD {s:List Nat} {i:Nat} (h:i<s.length):kI i (.str s)=some (.int .u8 (s[i]:Nat)):=by
 simp only [kI,xh h]
def Ry {r:Nat} (h:r<10):fP [48,49,50,51,52,53,54,55,56,57] (some r) (some (r+1))=some (.str [48+r]):=by
 have:r=0\/r=1\/r=2\/r=3\/r=4\/r=5\/r=6\/r=7\/r=8\/r=9:=by omega
 rcases this with rfl | rfl | rfl | rfl | rfl | rfl | rfl | rfl | rfl | rfl<;>rfl
section
variable {P:aR} {L:Lib}
def Od (h:Has P L 292 qu) {n:Nat} (hn:n<9223372036854775808):ai P L 292 [aa n,aa 1] (.str (aw n)):=by
 have key:=gW (P:=P) (L:=L) (live:=[0,1,5]) (a:=lF)
  (I:=fun k st=>∃(m:Nat) (s:List Nat),st=⟨[(0,aa m),(1,aa 1),(5,.str s)],[],0,0⟩/\m<=n/\m+(1-s.length)=k/\s.length<=20/\((s=[]/\m=n)\/(0<s.length/\(m=0->s=aw n)/\(0<m->aw n=aw m++s))))
  (Q:=fun ex st=>∃tm ct,st=⟨tm,[],ct,0⟩/\ex= .exit 0/\ah tm 5= .str (aw n)) ?_
 ·unfold ai;rw [aK h];simp only [go_sem,qu];generalize hq:D P L (.loop [0,1,5] lF) _=q;obtain ⟨ex,st,rfl,tm,ct,rfl,rfl,h2⟩:=bP hq (key (n+1)) ⟨n,[],by simp only [go_sem,ya,aA]<;>rfl,by omega,rfl,by simp,.inl ⟨rfl,rfl⟩⟩
  simp only [go_sem,aA,h2]
 ·rintro k st ⟨m,s,rfl,hm,hk,hl,hs⟩;by_cases po:0<m\/s.length<1
  ·left
   have hc:((decide ((0:Int)<m))=true)\/((decide ((0:Int)<m))=false/\((s.length:Nat):Int)<1):=by
    by_cases h0:0<m
    ·exact .inl (xo (by omega))
    ·exact .inr ⟨xb (by omega),by omega⟩
   have hr:((m:Int)).tmod 10=((m%10:Nat):Int):=by rw [xQ (by omega)];rfl
   have hq:((m:Int)).tdiv 10=((m/10:Nat):Int):=by rw [Int.tdiv_eq_ediv_of_nonneg (by omega)];rfl
   have hd:=Ry (r:=m%10) (by omega);have fin:∃s' k',D P L lF ⟨[(0,aa m),(1,aa 1),(5,.str s)],[],0,0⟩=some (.normal,s')/\k'<k/\aV [0,1,5] s'=⟨[(0,aa (m/10:Nat)),(1,aa 1),(5,.str ([48+m%10]++s))],[],0,0⟩/\m/10+(1-([48+m%10]++s).length)=k':=by
    rcases hc with hc | ⟨hc,pg⟩
    ·have hc:(0:Int)<m:=of_decide_eq_true hc
     simp only [go_sem,ya,yc,lF,hc,gC _ _ _ (show (10:Int)≠0 by decide),e9 _ _ _ (show (10:Int)≠0 by decide),hr,hq,wrapN (n:=m%10+1) (by omega),wrap64 (n:=((m/10:Nat):Int)) (by omega) (by omega),dK,c7,show ((m%10:Nat):Int)+1=((m%10+1:Nat):Int) from rfl,hd,fc (a:=[48+m%10]) (b:=s) (by simp;omega)];refine ⟨_,_,rfl,?_,by simp only [go_sem,ya,aA],rfl⟩
     simp;omega
    ·have hc:¬(0:Int)<m:=of_decide_eq_false hc
     simp only [go_sem,ya,yc,lF,hc,pg,gC _ _ _ (show (10:Int)≠0 by decide),e9 _ _ _ (show (10:Int)≠0 by decide),hr,hq,wrapN (n:=m%10+1) (by omega),wrap64 (n:=((m/10:Nat):Int)) (by omega) (by omega),dK,c7,show ((m%10:Nat):Int)+1=((m%10+1:Nat):Int) from rfl,hd,fc (a:=[48+m%10]) (b:=s) (by simp;omega)];refine ⟨_,_,rfl,?_,by simp only [go_sem,ya,aA],rfl⟩
     simp;omega
   obtain ⟨s',k',f1,f2,f3,f4⟩:=fin;refine ⟨s',k',f1,f2,m/10,[48+m%10]++s,f3,by omega,f4,?_,.inr ⟨by simp,fun h0=>?_,fun h0=>?_⟩⟩
   ·have ary:=HO (n:=n) (by omega);rcases hs with ⟨rfl,rfl⟩ | ⟨h1,h2,h3⟩
    ·simp
    ·by_cases h0:0<m
     ·have e:=congrArg List.length (h3 h0);have e2:0<(aw m).length:=by
       by_cases h9:m<10
       ·rw [mo h9];simp
       ·rw [nB h9];simp
      simp only [yU] at e
      simp;omega
     ·omega
   ·have h9:m<10:=by omega
    rcases hs with ⟨rfl,rfl⟩ | ⟨h1,h2,h3⟩
    ·rw [mo h9,yN h9];rfl
    ·have:0<m:=by omega
     rw [h3 this,mo h9,yN h9]
   ·have h9:¬m<10:=by omega
    rcases hs with ⟨rfl,rfl⟩ | ⟨h1,h2,h3⟩
    ·rw [nB h9];simp
    ·rw [h3 (by omega),nB h9];simp
  ·right
   simp only [go_sem,ya,lF,show ¬(0:Int)<m by omega,show ¬((s.length:Nat):Int)<1 by omega];refine ⟨_,_,rfl,by simp,_,_,rfl,rfl,?_⟩;simp only [go_sem,ya];rcases hs with ⟨rfl,rfl⟩ | ⟨h1,h2,h3⟩
   ·simp at po
   ·rw [h2 (by omega)]
def amS (h:Has P L 291 FT) {a b:Nat} (ha:a<9223372036854775808) (hb:b<9223372036854775808):ai P L 291 [aa a,aa b] (aa (we a b)):=by
 have key:=gW (P:=P) (L:=L) (live:=[0,1]) (a:=E4)
  (I:=fun k st=>∃x y:Nat,st=⟨[(0,aa x),(1,aa y)],[],0,0⟩/\y=k/\we x y=we a b)
  (Q:=fun ex st=>∃tm ct,st=⟨tm,[],ct,0⟩/\ex= .exit 0/\ah tm 0=aa (we a b)) ?_
 ·unfold ai;rw [aK h];simp only [go_sem,FT];generalize hq:D P L (.loop [0,1] E4) _=q;obtain ⟨ex,st,rfl,tm,ct,rfl,rfl,h2⟩:=bP hq (key b) ⟨a,b,by simp only [go_sem,ya,aA]<;>rfl,rfl,rfl⟩
  simp only [go_sem,aA,h2]
 ·rintro k st ⟨x,y,rfl,rfl,hg⟩;by_cases hy:y=0
  ·right
   subst hy;simp only [go_sem,ya,E4,show ¬(0:Int)<((0:Nat):Int) by omega];refine ⟨_,_,rfl,by simp,_,_,rfl,rfl,?_⟩;simp only [go_sem,ya];rw [<-hg,Nat.gcd_zero_right]
  ·left
   have hr:((x:Int)).tmod y=((x%y:Nat):Int):=by rw [xQ (by omega)];rfl
   simp only [go_sem,ya,E4,show (0:Int)<y by omega,gC _ _ _ (show (y:Int)≠0 by omega),hr];refine ⟨_,x%y,rfl,xq _ (by omega),y,x%y,by simp only [go_sem,ya,aA],rfl,?_⟩;rw [<-hg,uh y,<-ybg,uh]
def Cs (h:Has P L 272 FP) {s:List Nat} (hl:s.length<9223372036854775808):ai P L 272 [.str s] (aa (bE s)):=by
 have key:=gW (P:=P) (L:=L) (live:=[0,3]) (a:=BT)
  (I:=fun k st=>∃i:Nat,st=⟨[(0,.str s),(3,aa i)],[],0,0⟩/\i+k=s.length/\i+bE (s.drop i)=bE s)
  (Q:=fun ex st=>∃tm ct,st=⟨tm,[],ct,0⟩/\((ex= .ret/\ah tm 2=aa (bE s))\/(ex= .exit 0/\ah tm 0= .str s/\bE s=s.length))) ?_
 ·unfold ai;rw [aK h];simp only [go_sem,FP];generalize hq:D P L (.loop [0,3] BT) _=q;obtain ⟨ex,st,rfl,tm,ct,rfl,h2⟩:=bP hq (key s.length) ⟨0,by simp only [go_sem,ya,aA]<;>rfl,by omega,by simp⟩
  rcases h2 with ⟨rfl,h2⟩ | ⟨rfl,h2,h3⟩
  ·simp only [go_sem,h2]
  ·simp only [go_sem,aA,h2,h3]
 ·rintro k st ⟨i,rfl,hk,hs⟩;by_cases hi:i<s.length
  ·rw [aaE hi] at hs;by_cases h7:s[i]=47
   ·right
    rw [yT h7] at hs;simp only [go_sem,ya,BT,show (i:Int)<s.length by omega,nD hi,show ((s[i]:Nat):Int)=47 by omega];refine ⟨_,_,rfl,by simp,_,_,rfl,.inl ⟨rfl,?_⟩⟩;simp only [go_sem];rw [<-hs];rfl
   ·left
    rw [yE h7] at hs;simp only [go_sem,ya,BT,show (i:Int)<s.length by omega,nD hi,show ¬((s[i]:Nat):Int)=47 by omega];refine ⟨_,k-1,rfl,by omega,i+1,?_,by omega,by omega⟩;rw [wrap64 (by omega) (by omega)];simp only [go_sem,ya,aA]<;>rfl
  ·right
   simp only [go_sem,ya,BT,show ¬(i:Int)<s.length by omega];refine ⟨_,_,rfl,by simp,_,_,rfl,.inr ⟨rfl,by simp only [go_sem,ya],?_⟩⟩;rw [xa (by omega)] at hs;simp only [bE] at hs;omega
def F6 (h:Has P L 290 Cn) {s:List Nat} {v:Nat} (hl:s.length<=18) (hv:cr s 0=some v):ai P L 290 [.str s] (aa v):=by
 have key:=gW (P:=P) (L:=L) (live:=[0,3,4]) (a:=E3)
  (I:=fun k st=>∃i a:Nat,st=⟨[(0,.str s),(3,aa a),(4,aa i)],[],0,0⟩/\i+k=s.length/\a<10^i/\cr (s.drop i) a=some v)
  (Q:=fun ex st=>∃tm ct,st=⟨tm,[],ct,0⟩/\ex= .exit 0/\ah tm 3=aa v) ?_
 ·unfold ai;rw [aK h];simp only [go_sem,Cn];generalize hq:D P L (.loop [0,3,4] E3) _=q;obtain ⟨ex,st,rfl,tm,ct,rfl,rfl,h2⟩:=bP hq (key s.length) ⟨0,0,by simp only [go_sem,ya,aA]<;>rfl,by omega,by simp,hv⟩
  simp only [go_sem,aA,h2]
 ·rintro k st ⟨i,a,rfl,hk,ha,hs⟩;by_cases hi:i<s.length
  ·left
   obtain ⟨h1,h2,h3⟩:=acV hi hs;have hp:10^i<=10^17:=xA (by decide) (by omega);have hb:IntKind.wrap .i64 ((s[i]:Nat):Int)=((s[i]:Nat):Int):=wrap64 (by omega) (by omega)
   simp only [go_sem,ya,E3,show (i:Int)<s.length by omega,nD hi,ag6,hb,wrap64 (n:=10*(a:Int)) (by omega) (by omega),wrap64 (n:=10*(a:Int)+(s[i]:Nat)) (by omega) (by omega),wrap64 (n:=10*(a:Int)+(s[i]:Nat)-48) (by omega) (by omega)];refine ⟨_,k-1,rfl,by omega,i+1,10*a+(s[i]-48),?_,by omega,?_,h3⟩
   ·rw [wrap64 (by omega) (by omega),show 10*(a:Int)+(s[i]:Nat)-48=((10*a+(s[i]-48):Nat):Int) by omega];simp only [go_sem,ya,aA]<;>rfl
   ·rw [y9];omega
  ·right
   simp only [go_sem,ya,E3,show ¬(i:Int)<s.length by omega];refine ⟨_,_,rfl,by simp,_,_,rfl,rfl,?_⟩;rw [xa (by omega)] at hs;simp only [cr,yb] at hs;subst hs;simp only [go_sem,ya]
def IJ (a:Int):(if 0-a>a then 0-a else a)=(a.natAbs:Int):=by omega
def Io (a b:Int):a.tdiv (wE a b:Nat)=cS a b:=tc (uD a b)
def Ip (a b:Int):b.tdiv (wE a b:Nat)=cY a b:=tc (uo a b)
def lk (n:Int):(if n<0 then [45] else [])++aw n.natAbs=aS n:=by
 split
 ·rename_i h;rw [lm h];rfl
 ·rename_i h;obtain ⟨m,rfl⟩:∃m:Nat,n=m:=⟨n.toNat,by omega⟩;rfl
def ae4 {n:Int} (h:n.natAbs<18446744073709551616):(aS n).length<=21:=by
 rw [<-lk]
 have:=HO h
 grind
def ag7 {a b:Int} (hb:0<b):mO a b=(if 1<cY a b then (aS (cS a b)++[47])++aw (cY a b).natAbs else aS (cS a b)):=by
 have h:=Et (a:=a) hb;unfold mO;by_cases h1:cY a b=1
 ·grind
 ·rw [yE h1,yT (by omega)];obtain ⟨m,hm⟩:∃m:Nat,cY a b=m:=⟨(cY a b).toNat,by omega⟩;rw [hm];rfl
def amT (h:Has P L 277 AI) (Oe:Has P L 291 FT) (nM:Has P L 292 qu) {a b:Int} (ha: -4000000000000000000<=a/\a<=4000000000000000000) (hb:0<b/\b<=4000000000000000000):
  ai P L 277 [aa a,aa b] (.str (mO a b)):=by
 have hn:=Th a b;have hd:=Ti a b;have hp:=Et (a:=a) hb.1;have e1:=amS Oe (a:=a.natAbs) (b:=b.natAbs) (by omega) (by omega);have e2:=Od nM (n:=(cS a b).natAbs) (by omega);have e3:=Od nM (n:=(cY a b).natAbs) (by omega);have hg:=II (a:=a) hb.1;rw [show ((b.natAbs:Nat):Int)=b by omega,show we a.natAbs b.natAbs=wE a b from rfl] at e1;rw [show (((cY a b).natAbs:Nat):Int)=cY a b by omega] at e3;have lX:=ae4 (n:=cS a b) (by omega);have qO:=HO (n:=(cS a b).natAbs) (by omega);have hl3:=HO (n:=(cY a b).natAbs) (by omega);have hT:=ag7 (a:=a) hb.1;have hS:=lk (cS a b);unfold ai at e1 e2 e3 ⊢;rw [aK h];by_cases h0:cS a b<0
 ·rw [yT h0] at hS;by_cases h1:1<cY a b
  ·rw [yT h1] at hT
   simp only [go_sem,ya,AI,show ¬a< -4000000000000000000 by omega,show ¬4000000000000000000<a by omega,show ¬b< -4000000000000000000 by omega,show ¬4000000000000000000<b by omega,show ¬b<0 by omega,wrap64 (n:=0-a) (by omega) (by omega),E9,Es,IJ,e1,e9 _ _ _ (show ((wE a b:Nat):Int)≠0 by omega),Io,Ip,wrap64 (n:=cS a b) (by omega) (by omega),wrap64 (n:=cY a b) (by omega) (by omega),h0,wrap64 (n:=0-cS a b) (by omega) (by omega),e2,fc (a:=[45]) (b:=aw (cS a b).natAbs) (by simp;omega),hS,h1,fc (a:=aS (cS a b)) (b:=[47]) (by simp;omega),e3,fc (a:=aS (cS a b)++[47]) (b:=aw (cY a b).natAbs) (by simp;omega),hT]
  ·rw [yE h1] at hT
   simp only [go_sem,ya,AI,show ¬a< -4000000000000000000 by omega,show ¬4000000000000000000<a by omega,show ¬b< -4000000000000000000 by omega,show ¬4000000000000000000<b by omega,show ¬b<0 by omega,wrap64 (n:=0-a) (by omega) (by omega),E9,Es,IJ,e1,e9 _ _ _ (show ((wE a b:Nat):Int)≠0 by omega),Io,Ip,wrap64 (n:=cS a b) (by omega) (by omega),wrap64 (n:=cY a b) (by omega) (by omega),h0,wrap64 (n:=0-cS a b) (by omega) (by omega),e2,fc (a:=[45]) (b:=aw (cS a b).natAbs) (by simp;omega),hS,h1,hT]
 ·rw [yE h0] at hS;by_cases h1:1<cY a b
  ·rw [yT h1] at hT
   simp only [go_sem,ya,AI,show ¬a< -4000000000000000000 by omega,show ¬4000000000000000000<a by omega,show ¬b< -4000000000000000000 by omega,show ¬4000000000000000000<b by omega,show ¬b<0 by omega,wrap64 (n:=0-a) (by omega) (by omega),E9,Es,IJ,e1,e9 _ _ _ (show ((wE a b:Nat):Int)≠0 by omega),Io,Ip,wrap64 (n:=cS a b) (by omega) (by omega),wrap64 (n:=cY a b) (by omega) (by omega),h0,wrap64 (n:=0-cS a b) (by omega) (by omega),e2,fc (a:=[]) (b:=aw (cS a b).natAbs) (by simp;omega),hS,h1,fc (a:=aS (cS a b)) (b:=[47]) (by simp;omega),e3,fc (a:=aS (cS a b)++[47]) (b:=aw (cY a b).natAbs) (by simp;omega),hT]
  ·rw [yE h1] at hT
   simp only [go_sem,ya,AI,show ¬a< -4000000000000000000 by omega,show ¬4000000000000000000<a by omega,show ¬b< -4000000000000000000 by omega,show ¬4000000000000000000<b by omega,show ¬b<0 by omega,wrap64 (n:=0-a) (by omega) (by omega),E9,Es,IJ,e1,e9 _ _ _ (show ((wE a b:Nat):Int)≠0 by omega),Io,Ip,wrap64 (n:=cS a b) (by omega) (by omega),wrap64 (n:=cY a b) (by omega) (by omega),h0,wrap64 (n:=0-cS a b) (by omega) (by omega),e2,fc (a:=[]) (b:=aw (cS a b).natAbs) (by simp;omega),hS,h1,hT]
end
def TT (n:Int) (d:Nat):List Nat:=aS n++(if d=1 then [] else 47::aw d)
def ag8 {a b:Int} (hb:0<b):mO a b=TT (cS a b) (cY a b).toNat:=by
 have h:=Et (a:=a) hb;unfold mO TT;by_cases h1:cY a b=1
 ·grind
 ·rw [yE h1,yE (by omega)];obtain ⟨m,hm⟩:∃m:Nat,cY a b=m:=⟨(cY a b).toNat,by omega⟩;rw [hm,List.append_assoc];rfl
def rJ (n:Nat):0<(aw n).length:=by
 by_cases h:n<10
 ·rw [mo h];simp
 ·rw [nB h];simp
def EF:∀(n:Nat),n<10^(aw n).length:=by
 intro n
 induction n using vI with
 | _ n ih=>
  by_cases h:n<10
  ·rw [mo h];simpa using h
  ·have:=ih (n/10) (by omega)
   rw [nB h,yU,List.length_singleton,y9];omega
def Tk {n:Nat} (h:(aw n).length<=9):n<1000000000:=
 Nat.lt_of_lt_of_le (EF n) (by simpa using xA (show 0<10 by decide) h)
def By (n:Nat):∃b r,aw n=b::r/\48<=b/\b<=57:=by
 cases hq:aw n with
 | nil=>have:=rJ n;rw [hq] at this;simp at this
 | cons b r=>
  have:=El n
  rw [hq] at this;simp only [cM,yf] at this
  simp_all
section
variable {P:aR} {L:Lib}
def AK (s:List Nat):kI 0 (.str (45::s))=some (.int .u8 45):=rfl
def M0 (q:Bool) (n:Int) (d:Nat):AV:=if q=true then .av [aa n,aa d,.bool true] else .av [aa 0,aa 0,.bool false]
def pZ (d:Nat):List Nat:=if d=1 then [] else 47::aw d
def abo (d:Nat):bE (pZ d)=0:=by unfold pZ;split<;>rfl
def amU (h:Has P L 276 mN) (sH:Has P L 272 FP) (qB:Has P L 290 Cn) {n:Int} {d:Nat} (hl:(TT n d).length<=20000000000):
  ∃q:Bool,ai P L 276 [.str (TT n d)] (M0 q n d)/\(q=true->n.natAbs<1000000000/\d<1000000000):=by
 generalize hs:TT n d=s at hl;by_cases kY:20<s.length
 ·refine ⟨false,?_,fun h=>by cases h⟩;unfold ai;rw [aK h];simp only [go_sem,ya,mN,show (20:Int)<s.length by omega];rfl
 ·have hu:∃u,u=aw n.natAbs++pZ d:=⟨_,rfl⟩;obtain ⟨u,hu⟩:=hu;have hK:∃K,K=(aw n.natAbs).length:=⟨_,rfl⟩;obtain ⟨K,hK⟩:=hK;have CM:bE u=K:=by rw [hu,Hy _ (El _),abo,hK];rfl
  have hlen:u.length=K+(pZ d).length:=by rw [hu,hK,yU]
  have hp:=rJ n.natAbs;obtain ⟨b,r,hb,iC,CV⟩:=By n.natAbs;have Bb:(n<0/\s=45::u)\/(¬n<0/\s=u):=by
   by_cases h0:n<0
   ·left;refine ⟨h0,?_⟩;rw [<-hs,hu,TT,lm h0];rfl
   ·right;refine ⟨h0,?_⟩;rw [<-hs,hu,TT,<-lk,yE h0];rfl
  have hul:u.length<=s.length:=by rcases Bb with ⟨_,e⟩ | ⟨_,e⟩<;>rw [e]<;>simp
  have zj:0<u.length:=by omega
  have nU:u[0]=b:=by
   have:u=b::(r++pZ d):=by rw [hu,hb];rfl
   simp [this]
  have e1:=Cs sH (s:=u) (by omega);rw [CM] at e1;have dE:fP u (some 0) (some K)=some (.str (aw n.natAbs)):=by
   rw [jv (by omega) (by omega),yy,hu,hK,List.take_left]
  unfold ai at e1;by_cases h9:9<K
  ·refine ⟨false,?_,fun h=>by cases h⟩;unfold ai;rw [aK h];rcases Bb with ⟨h0,e⟩ | ⟨h0,e⟩
   ·have kY:¬20<u.length+1:=by rw [e] at kY;exact kY
    have jl:fP (45::u) (some 1) (some (u.length+1))=some (.str u):=by rw [jv (s:=45::u) (l:=1) (h:=u.length+1) (by omega) (by simp)];simp
    rw [e];simp only [go_sem,ya,mN,show ¬(20:Int)<((u.length+1:Nat):Int) by omega,show (0:Int)<((u.length+1:Nat):Int) by omega,AK,dK,dW,c7,jl,e1,show (9:Int)<(K:Int) by omega];rfl
   ·rw [e];simp only [go_sem,ya,mN,show ¬(20:Int)<(u.length:Nat) by omega,show (0:Int)<(u.length:Nat) by omega,nD zj,nU,show ¬((b:Nat):Int)=45 by omega,e1,show (9:Int)<(K:Int) by omega];rfl
  ·by_cases fH:10<(pZ d).length
   ·refine ⟨false,?_,fun h=>by cases h⟩;unfold ai;rw [aK h];rcases Bb with ⟨h0,e⟩ | ⟨h0,e⟩
    ·have kY:¬20<u.length+1:=by rw [e] at kY;exact kY
     have jl:fP (45::u) (some 1) (some (u.length+1))=some (.str u):=by rw [jv (s:=45::u) (l:=1) (h:=u.length+1) (by omega) (by simp)];simp
     rw [e]
     simp only [go_sem,ya,mN,show ¬(20:Int)<((u.length+1:Nat):Int) by omega,show (0:Int)<((u.length+1:Nat):Int) by omega,AK,dK,dW,c7,jl,e1,show ¬(9:Int)<(K:Int) by omega,wrap64 (n:=(u.length:Int)-(K:Int)) (by omega) (by omega),show (10:Int)<(u.length:Int)-(K:Int) by omega];rfl
    ·rw [e]
     simp only [go_sem,ya,mN,show ¬(20:Int)<(u.length:Nat) by omega,show (0:Int)<(u.length:Nat) by omega,nD zj,nU,show ¬((b:Nat):Int)=45 by omega,e1,show ¬(9:Int)<(K:Int) by omega,wrap64 (n:=(u.length:Int)-(K:Int)) (by omega) (by omega),show (10:Int)<(u.length:Int)-(K:Int) by omega];rfl
   ·have e2:=F6 qB (s:=aw n.natAbs) (by omega) (Bx n.natAbs);unfold ai at e2;have hm:=Tk (n:=n.natAbs) (by omega);by_cases hd:d=1
    ·subst hd;have me:pZ 1=[]:=rfl;refine ⟨true,?_,fun _=>⟨hm,by decide⟩⟩;rw [me] at hlen;simp only [yM,yX] at hlen;unfold ai;rw [aK h];rcases Bb with ⟨h0,e⟩ | ⟨h0,e⟩
     ·have kY:¬20<u.length+1:=by rw [e] at kY;exact kY
      have jl:fP (45::u) (some 1) (some (u.length+1))=some (.str u):=by rw [jv (s:=45::u) (l:=1) (h:=u.length+1) (by omega) (by simp)];simp
      rw [e]
      simp only [go_sem,ya,mN,show ¬(20:Int)<((u.length+1:Nat):Int) by omega,show (0:Int)<((u.length+1:Nat):Int) by omega,AK,dK,dW,c7,jl,e1,show ¬(9:Int)<(K:Int) by omega,wrap64 (n:=(u.length:Int)-(K:Int)) (by omega) (by omega),show ¬(10:Int)<(u.length:Int)-(K:Int) by omega,dE,e2,show ¬(K:Int)<(u.length:Int) by omega,wrap64 (n:=0-(n.natAbs:Int)) (by omega) (by omega)];rw [show 0-(n.natAbs:Int)=n by omega];rfl
     ·rw [e]
      simp only [go_sem,ya,mN,show ¬(20:Int)<(u.length:Nat) by omega,show (0:Int)<(u.length:Nat) by omega,nD zj,nU,show ¬((b:Nat):Int)=45 by omega,dK,dW,c7,e1,show ¬(9:Int)<(K:Int) by omega,wrap64 (n:=(u.length:Int)-(K:Int)) (by omega) (by omega),show ¬(10:Int)<(u.length:Int)-(K:Int) by omega,dE,e2,show ¬(K:Int)<(u.length:Int) by omega];rw [show (n.natAbs:Int)=n by omega];rfl
    ·have me:pZ d=47::aw d:=yE hd;have GY:(pZ d).length=(aw d).length+1:=by rw [me];rfl
     have hpd:=rJ d;have hd9:=Tk (n:=d) (by omega);have e3:=F6 qB (s:=aw d) (by omega) (Bx d);unfold ai at e3;have pg:fP u (some (K+1)) (some u.length)=some (.str (aw d)):=by
      rw [jv (by omega) (yv _),xy,hu,me,hK,show (aw n.natAbs).length+1=(aw n.natAbs++[47]).length by simp,show aw n.natAbs++47::aw d=(aw n.natAbs++[47])++aw d by simp,List.drop_left]
     refine ⟨true,?_,fun _=>⟨hm,hd9⟩⟩;unfold ai;rw [aK h];rcases Bb with ⟨h0,e⟩ | ⟨h0,e⟩
     ·have kY:¬20<u.length+1:=by rw [e] at kY;exact kY
      have jl:fP (45::u) (some 1) (some (u.length+1))=some (.str u):=by rw [jv (s:=45::u) (l:=1) (h:=u.length+1) (by omega) (by simp)];simp
      rw [e]
      simp only [go_sem,ya,mN,show ¬(20:Int)<((u.length+1:Nat):Int) by omega,show (0:Int)<((u.length+1:Nat):Int) by omega,AK,dK,dW,c7,jl,e1,show ¬(9:Int)<(K:Int) by omega,wrap64 (n:=(u.length:Int)-(K:Int)) (by omega) (by omega),show ¬(10:Int)<(u.length:Int)-(K:Int) by omega,dE,e2,show (K:Int)<(u.length:Int) by omega,wrapN (n:=K+1) (by omega),show (K:Int)+1=((K+1:Nat):Int) from rfl,pg,e3,wrap64 (n:=0-(n.natAbs:Int)) (by omega) (by omega)];rw [show 0-(n.natAbs:Int)=n by omega];rfl
     ·rw [e]
      simp only [go_sem,ya,mN,show ¬(20:Int)<(u.length:Nat) by omega,show (0:Int)<(u.length:Nat) by omega,nD zj,nU,show ¬((b:Nat):Int)=45 by omega,dK,dW,c7,e1,show ¬(9:Int)<(K:Int) by omega,wrap64 (n:=(u.length:Int)-(K:Int)) (by omega) (by omega),show ¬(10:Int)<(u.length:Int)-(K:Int) by omega,dE,e2,show (K:Int)<(u.length:Int) by omega,wrapN (n:=K+1) (by omega),show (K:Int)+1=((K+1:Nat):Int) from rfl,pg,e3];rw [show (n.natAbs:Int)=n by omega];rfl
def Of (h:Has P L 302 oH) {v:AV} {l:List Int} (hv:bg v l) (i:Nat):ai P L 302 [v,aa i] (aa (l.getD i 0)):=by
 unfold ai;rw [aK h];by_cases hi:i<l.length
 ·simp only [go_sem,ya,oH,hv.len,show (i:Int)<l.length by omega,hv.bt hi];simp [y7,xh hi]
 ·simp only [go_sem,ya,oH,hv.len,show ¬(i:Int)<l.length by omega];simp [y7,List.getElem?_eq_none (Nat.le_of_not_lt hi)]
def Up {hp:Hp} {e:Bool} {n:Nat} {cs:List AV} {tm:Env} {h:Nat} {x:X} (hx:cL tm n (some x)=some h) (hh:h<=n):
  eB hp (.sl 1) (.aq e n cs) tm none (some x)=some (.aq (e&&ym h n) h (cs.take h)):=by
 simp only [eB,hx,dW];simp [yu hh,slice];rw [show yx 0 h=true from yu (uY _)];rfl
def sI (h:Has P L 300 jI) {v:AV} {l:List Int} (hv:bg v l) (hl:l.length<=20000000000):∃r,ai P L 300 [v] r/\bg r (dn l)/\shut r=r:=by
 rcases hv with ⟨rfl,h0⟩ | ⟨e,rfl⟩
 ·have:l=[]:=by simpa using h0
  subst this;refine ⟨.af,?_,zN,rfl⟩;unfold ai;rw [aK h];simp only [go_sem,ya,jI,I0,Ac,aA,show ¬(0:Int)<0 by decide]
 ·have key:=gW (P:=P) (L:=L) (live:=[0]) (a:=Ac)
   (I:=fun k st=>∃(i:Nat) (e:Bool),st=⟨[(0,.aq e i ((l.take i).map aa))],[],0,0⟩/\i<=l.length/\i=k/\dn (l.take i)=dn l)
   (Q:=fun ex st=>∃tm ct,st=⟨tm,[],ct,0⟩/\ex= .exit 0/\∃i e,ah tm 0= .aq e i ((l.take i).map aa)/\i<=l.length/\l.take i=dn l) ?_
  ·have hlen:(l.map aa).length=l.length:=by simp
   rw [hlen];have gN:∃i e',ai P L 300 [.aq e l.length (l.map aa)] (.aq e' i ((l.take i).map aa))/\i<=l.length/\l.take i=dn l:=by
    unfold ai;rw [aK h];simp only [go_sem,jI];generalize hq:D P L (.loop [0] Ac) _=q;obtain ⟨ex,st,rfl,tm,ct,rfl,rfl,i,e',h2,h3,h4⟩:=bP hq (key l.length) ⟨l.length,e,by simp only [go_sem,ya,aA,xy],yv _,rfl,by rw [xy]⟩;simp only [go_sem,aA,h2];exact ⟨i,e',rfl,h3,h4⟩
   obtain ⟨i,e',g1,g2,g3⟩:=gN;refine ⟨_,g1,?_,rfl⟩;rw [<-g3]
   have:=ju e' (l.take i)
   rwa [yQ,xO g2] at this
  ·rintro k st ⟨i,e,rfl,hi,rfl,ht⟩
   cases i with
   | zero=>
    right
    simp only [go_sem,ya,Ac,show ¬(0:Int)<((0:Nat):Int) by omega];exact ⟨_,_,rfl,by simp,_,_,rfl,rfl,0,e,by simp only [go_sem,ya],uY _,by simpa [dn] using ht⟩
   | succ i=>
    have GZ:i<l.length:=by omega
    have dQ:l.take (i+1)=l.take i++[l[i]]:=xB GZ;have gS:vJ i ((l.take (i+1)).map aa)=[AV.int .i64 l[i]]:=by
     rw [dQ,List.map_append,List.drop_left' (by simp;omega)];rfl
    have mg:iv 1 i (.aq e (i+1) ((l.take (i+1)).map aa))=some (.bR [AV.int .i64 l[i]]):=by
     rw [IG e _ (by omega),yo,gS]
    by_cases h0:l[i]=0
    ·left
     have jL:∀tm x,cL tm (i+1) (some x)=some i->eB [] (.sl 1) (.aq e (i+1) ((l.take (i+1)).map aa)) tm none (some x)=some (.aq (e&&ym i (i+1)) i ((l.take i).map aa)):=fun tm x hx=>by
      rw [Up hx (by omega),<-yaq,List.take_take,xO (by omega)]
     simp only [go_sem,ya,Ac,show (0:Int)<((i+1:Nat):Int) by omega,show ((i+1:Nat):Int)-1=(i:Int) by omega,wrapN (n:=i) (by omega),mg,h0,jL,c7];refine ⟨_,i,rfl,by omega,i,_,by simp only [go_sem,aA]<;>rfl,by omega,rfl,?_⟩
     rw [<-ht,dQ,h0,Eb]
    ·right
     simp only [go_sem,ya,Ac,show (0:Int)<((i+1:Nat):Int) by omega,show ((i+1:Nat):Int)-1=(i:Int) by omega,wrapN (n:=i) (by omega),mg,h0];refine ⟨_,_,rfl,by simp,_,_,rfl,rfl,i+1,e,by simp only [go_sem,ya],by omega,?_⟩;rw [<-ht,dQ,HM h0]
end
abbrev uc (n:Nat):AV:= .int .u64 (n:Int)
def bw (v:AV) (l:List Nat):Prop:=cE v (l.map uc)
section
variable {v:AV} {l:List Nat}
def bw.len (h:bw v l) {hp:Hp}:gF hp 1 v=some (.int .i64 (l.length:Nat)):=by
 have:=cE.len (hp:=hp) h
 grind
def bw.pu (h:bw v l):aX v=true:=cE.pu h
def bw.ak (h:bw v l) (n:Nat) {hp:Hp}:freeze (n+1) hp v=some (v,hp):=cE.ak h n
def bw.shut (h:bw v l):VE.shut v=v:=cE.shut h
def bw.bG (h:bw v l):VE.bG v=v:=cE.bG h
def bw.eT (h:bw v l) {hp:Hp}:result hp v=some v:=cE.eT h
def bw.one (h:bw v l):cw v=true:=cE.one h
def bw.bt (h:bw v l) {i:Nat} (hi:i<l.length):iv 1 i v=some (.bR (uc (l.getD i 0)::(l.map uc).drop (i+1))):=by
 have:=cE.bt h (i:=i) (by simpa using hi)
 grind
def kE (e:Bool) (l:List Nat):bw (.aq e l.length (l.map uc)) l:=by
 have:=MC e (l.map uc)
 rwa [List.length_map] at this
def pI:bw .af []:=zN
end
def iY {hp:Hp} {ct id o:Nat} {v:Nat} {ex:Bool} {l:List Nat} (h:o<l.length):ie hp ct id o 1 [.int .u64 (v:Int)] (some (.cells true true ex 1 (l.map uc)))=some (.av [],a6 hp id (.cells true true ex 1 ((l.set o v).map uc)),ct):=by
 rw [B6 (by rfl) (by simp;omega) (by rfl)]
 have:over o [uc v] (l.map uc)=(l.set o v).map uc:=by
  simp only [over,yH,yM,yj];rw [List.map_set,List.set_eq_take_append_cons_drop,yT (by simpa using h)]
  simp
 rw [this];rfl
def p6 {l:List Nat} {o:Nat} (h:o<l.length):vJ o (l.map uc)=uc (l.getD o 0)::vJ (o+1) (l.map uc):=by
 rw [yP (by simpa using h)]
 grind
def ag9 (n:Nat):(yC n [AV.int .u64 0]).flatten=(yC n 0).map uc:=by simp_all
def AL (ct:Nat) {n:Nat} (h:n<=100000000000):qw ct 1 8 [.int .u64 0] (some n) (some n)=some (.ay ct 0 n,.cells true true true 1 ((yC n 0).map uc)):=by
 rw [E8 (sz:=1) (by omega) (by omega) (by rfl) (by rfl),ag9];rfl
def sJ (hp:Hp) {n:Nat} {l:List Nat} (h:l.length=n) (ex:Bool):jK 0 n (some (ex,1,l.map uc,hp))=some (.aq ex n (l.map uc),hp):=ll ex (by simp [h]) (by decide)
def V3 {n:Nat} (h:n<18446744073709551616):IntKind.wrap .u64 (n:Int)=n:=alL (by omega) (by omega)
section
variable {P:aR} {L:Lib} {f:bZ}
def jd {a b:Nat} (h:a<b):yF a b=true:=by simp_all
def Ag (h:L.pure 171=some lE) {x y c:Nat} (hx:x<18446744073709551616) (hy:y<18446744073709551616) (hc:c<=1):
  bA P L f 171 [uc x,uc y,uc c]=some (.av [uc ((x+y+c)%18446744073709551616),uc ((x+y+c)/18446744073709551616)]):=by
 rw [gX h];show (bif yx c 1&&(yF x 18446744073709551616&&yF y 18446744073709551616) then _ else none)=_
 rw [yu hc,jd hx,jd hy];rfl
def M1 (h:L.pure 173=some rR) {x y c:Nat} (hx:x<18446744073709551616) (hy:y<18446744073709551616) (hc:c<=1):
  bA P L f 173 [uc x,uc y,uc c]=some (.av [uc ((x+18446744073709551616*2-y-c)%18446744073709551616),uc (if y+c<=x then 0 else 1)]):=by
 rw [gX h];show (bif yx c 1&&(yF x 18446744073709551616&&yF y 18446744073709551616) then _ else none)=_
 rw [yu hc,jd hx,jd hy];by_cases hh:y+c<=x
 ·rw [yu hh,yT hh];rfl
 ·have:yx (y+c) x=false:=by
   cases hq:yx (y+c) x with
   | false=>rfl
   | true=>exact absurd (yr hq) hh
  grind
def I2 (h:L.pure 143=some og) {x y:Nat} (hx:x<18446744073709551616) (hy:y<18446744073709551616):
  bA P L f 143 [uc x,uc y]=some (.av [uc (x*y/18446744073709551616),uc (x*y%18446744073709551616)]):=by
 rw [gX h];show (bif yF x 18446744073709551616&&yF y 18446744073709551616 then _ else none)=_
 rw [jd hx,jd hy];rfl
def ae5 {hp:Hp} {tm:Env} {x:X} (hx:cL tm 0 (some x)=some 0):eB hp (.sl 1) .af tm none (some x)=some .af:=by
 simp only [eB,hx,dW]
def sK (h:Has P L 166 sB) {v:AV} {l:List Nat} (hv:bw v l) (hl:l.length<=100000000000):∃r,ai P L 166 [v] r/\bw r (dt l):=by
 rcases hv with ⟨rfl,h0⟩ | ⟨e,rfl⟩
 ·have:l=[]:=by simpa using h0
  subst this;refine ⟨.af,?_,zN⟩;unfold ai;rw [aK h];simp only [go_sem,ya,sB,I0,z8,aA,show ¬(0:Int)<0 by decide,ae5,c7]
 ·have key:=gW (P:=P) (L:=L) (live:=[0,3]) (a:=z8)
   (I:=fun k st=>∃(i:Nat),st=⟨[(0,.aq e l.length (l.map uc)),(3,aa i)],[],0,0⟩/\i<=l.length/\i=k/\dt (l.take i)=dt l)
   (Q:=fun ex st=>∃tm ct,st=⟨tm,[],ct,0⟩/\ex= .exit 0/\∃i:Nat,ah tm 0= .aq e l.length (l.map uc)/\ah tm 3=aa i/\i<=l.length/\l.take i=dt l) ?_
  ·have hlen:(l.map uc).length=l.length:=by simp
   rw [hlen];have gN:∃i e',ai P L 166 [.aq e l.length (l.map uc)] (.aq e' i ((l.take i).map uc))/\i<=l.length/\l.take i=dt l:=by
    unfold ai;rw [aK h];simp only [go_sem,ya,sB];generalize hq:D P L (.loop [0,3] z8) _=q;obtain ⟨ex,st,rfl,tm,ct,rfl,rfl,i,h2,h3,h4,h5⟩:=bP hq (key l.length) ⟨l.length,by simp only [go_sem,ya,aA],yv _,rfl,by rw [xy]⟩;have jL:∀tm x,cL tm l.length (some x)=some i->eB [] (.sl 1) (.aq e l.length (l.map uc)) tm none (some x)=some (.aq (e&&ym i l.length) i ((l.map uc).take i)):=fun tm x hx=>Up hx h4
    simp only [go_sem,ya,aA,h2,h3,jL,c7];exact ⟨i,_,by rw [yaq],h4,h5⟩
   obtain ⟨i,e',g1,g2,g3⟩:=gN;refine ⟨_,g1,?_⟩;rw [<-g3]
   have:=kE e' (l.take i)
   rwa [yQ,xO g2] at this
  ·rintro k st ⟨i,rfl,hi,rfl,ht⟩
   cases i with
   | zero=>
    right
    simp only [go_sem,ya,z8,show ¬(0:Int)<((0:Nat):Int) by omega];exact ⟨_,_,rfl,by simp,_,_,rfl,rfl,0,by simp only [go_sem,ya],by simp only [go_sem,ya],uY _,by simpa [dt] using ht⟩
   | succ i=>
    have GZ:i<l.length:=by omega
    have dQ:l.take (i+1)=l.take i++[l[i]]:=xB GZ;have mg:=(kE e l).bt GZ;rw [<-gd GZ] at mg;by_cases h0:l[i]=0
    ·left
     simp only [go_sem,ya,z8,show (0:Int)<((i+1:Nat):Int) by omega,show ((i+1:Nat):Int)-1=(i:Int) by omega,wrapN (n:=i) (by omega),mg,show ((l[i]:Nat):Int)=0 by omega];refine ⟨_,i,rfl,by omega,i,by simp only [go_sem,ya,aA],by omega,rfl,?_⟩;rw [<-ht,dQ,h0,HN]
    ·right
     simp only [go_sem,ya,z8,show (0:Int)<((i+1:Nat):Int) by omega,show ((i+1:Nat):Int)-1=(i:Int) by omega,wrapN (n:=i) (by omega),mg,show ¬((l[i]:Nat):Int)=0 by omega];refine ⟨_,_,rfl,by simp,_,_,rfl,rfl,i+1,by simp only [go_sem,ya],by simp only [go_sem,ya],by omega,?_⟩;rw [<-ht,dQ,Bu h0]
end
def HP (p b s:Nat):p*(s%b)+p*b*(s/b)=p*s:=by
 rw [xf,<-xt,Nat.mod_add_div]
def acW {b:Nat} {x y out:List Nat} {i c:Nat} (hi:i<out.length) (hz:out.getD i 0=0) (hv:bv b out+b^i*c=bv b (x.take i)+bv b (y.take i)):
  bv b (out.set i ((x.getD i 0+y.getD i 0+c)%b))+b^(i+1)*((x.getD i 0+y.getD i 0+c)/b)=bv b (x.take (i+1))+bv b (y.take (i+1)):=by
 have h1:=lG (b:=b) (x:=(x.getD i 0+y.getD i 0+c)%b) hi;have h2:=HP (b^i) b (x.getD i 0+y.getD i 0+c);rw [hz,xz,yX] at h1;rw [gZ,gZ,y9,h1]
 grind
def acX {b:Nat} {x y out:List Nat} {i c z c':Nat} (hi:i<out.length) (hz:out.getD i 0=0) (hs:z+y.getD i 0+c=x.getD i 0+b*c') (hv:bv b out+bv b (y.take i)=bv b (x.take i)+b^i*c):
  bv b (out.set i z)+bv b (y.take (i+1))=bv b (x.take (i+1))+b^(i+1)*c':=by
 have h1:=lG (b:=b) (x:=z) hi;rw [hz,xz,yX] at h1;rw [gZ,gZ,y9,h1]
 grind
section
variable {P:aR} {L:Lib}
def WS (h:Has P L 158 Cj) {v w:AV} {x y:List Nat} (hv:bw v x) (hw:bw w y) (hx:lo 18446744073709551616 x) (hy:lo 18446744073709551616 y) (nx:fo x) (ny:fo y) (lx:x.length<=100000000000) (ly:y.length<=100000000000):
  ai P L 158 [v,w] (aa (df (bv 18446744073709551616 x) (bv 18446744073709551616 y))):=by
 unfold ai;rw [aK h];by_cases hlen:x.length=y.length
 ·have key:=gW (P:=P) (L:=L) (live:=[0,1,5]) (a:=z7)
   (I:=fun k st=>∃j:Nat,st=⟨[(0,v),(1,w),(5,aa ((j:Int)-1))],[],0,0⟩/\j<=x.length/\j=k/\x.drop j=y.drop j)
   (Q:=fun ex st=>∃tm ct,st=⟨tm,[],ct,0⟩/\((ex= .ret/\ah tm 4=aa (df (bv 18446744073709551616 x) (bv 18446744073709551616 y)))\/(ex= .exit 0/\x=y))) ?_
  ·simp only [go_sem,ya,Cj,hv.len,hw.len,show (x.length:Int)=y.length by omega];generalize hq:D P L (.loop [0,1,5] z7) _=q;obtain ⟨ex,st,rfl,tm,ct,rfl,h2⟩:=bP hq (key x.length) ⟨x.length,by
    rw [wrap64 (by omega) (by omega),hlen]
    simp only [go_sem,ya,aA,aB hv.pu,aE _ hv.pu,aB hw.pu,aE _ hw.pu]<;>rfl,yv _,rfl,by rw [xa (yv _),xa (by omega)]⟩
   rcases h2 with ⟨rfl,h2⟩ | ⟨rfl,h2⟩
   ·simp only [go_sem,h2]
   ·simp only [go_sem,aA];subst h2;simp [df]
  ·rintro k st ⟨j,rfl,hj,rfl,he⟩
   cases j with
   | zero=>
    right
    simp only [go_sem,ya,z7,show ¬(0:Int)<=((0:Nat):Int)-1 by omega];exact ⟨_,_,rfl,by simp,_,_,rfl,.inr ⟨rfl,by simpa using he⟩⟩
   | succ i=>
    have h1:i<x.length:=by omega
    have h2:i<y.length:=by omega
    have zb:=Uh hx h1 h2 he;have aO:=Uh hy h2 h1 he.symm;by_cases c0:x.getD i 0=y.getD i 0
    ·left
     simp only [go_sem,ya,z7,show ((i+1:Nat):Int)-1=(i:Int) by omega,show (0:Int)<=(i:Int) by omega,hv.bt h1,hw.bt h2,c0];refine ⟨_,i,rfl,by omega,i,?_,by omega,rfl,?_⟩
     ·rw [wrap64 (by omega) (by omega)];simp only [go_sem,ya,aA,aB hv.pu,aE _ hv.pu,aB hw.pu,aE _ hw.pu]<;>rfl
     ·rw [yP h1,yP h2,he,gd h1,gd h2,c0]
    ·by_cases c1:x.getD i 0<y.getD i 0
     ·right
      simp only [go_sem,ya,z7,show ((i+1:Nat):Int)-1=(i:Int) by omega,show (0:Int)<=(i:Int) by omega,hv.bt h1,hw.bt h2,show ¬((x.getD i 0:Nat):Int)=(y.getD i 0:Nat) by omega,show ((x.getD i 0:Nat):Int)<(y.getD i 0:Nat) by omega];refine ⟨_,_,rfl,by simp,_,_,rfl,.inl ⟨rfl,?_⟩⟩;simp only [go_sem];unfold df;rw [yT (zb c1)]
     ·right
      simp only [go_sem,ya,z7,show ((i+1:Nat):Int)-1=(i:Int) by omega,show (0:Int)<=(i:Int) by omega,hv.bt h1,hw.bt h2,show ¬((x.getD i 0:Nat):Int)=(y.getD i 0:Nat) by omega,show ¬((x.getD i 0:Nat):Int)<(y.getD i 0:Nat) by omega];refine ⟨_,_,rfl,by simp,_,_,rfl,.inl ⟨rfl,?_⟩⟩;simp only [go_sem];unfold df;rw [yE (by omega),yT (by omega)]
 ·by_cases c1:x.length<y.length
  ·have:=IE (b:=18446744073709551616) (by decide) hx ny c1
   simp only [go_sem,ya,Cj,hv.len,hw.len,show ¬(x.length:Int)=y.length by omega,show (x.length:Int)<y.length by omega];unfold df;rw [yT this]
  ·have:=IE (b:=18446744073709551616) (by decide) hy nx (show y.length<x.length by omega)
   simp only [go_sem,ya,Cj,hv.len,hw.len,show ¬(x.length:Int)=y.length by omega,show ¬(x.length:Int)<y.length by omega];unfold df;rw [yE (by omega),yT this]
def UR (fh:L.pure 171=some lE) {v w:AV} {x y:List Nat} (hv:bw v x) (hw:bw w y) (hx:lo 18446744073709551616 x) (hy:lo 18446744073709551616 y) (lx:x.length<=99999999999) (ly:y.length<=x.length) {n:Nat} (hn:n=x.length+1):
  ∀k s,(∃(i c:Nat) (out:List Nat),aV [0,1,5,6,21,22] s=⟨[(0,v),(1,w),(5,.ay 0 0 n),(6,uc c),(21,aa x.length),(22,aa i)],[(0,.cells true true true 1 (out.map uc))],1,0⟩/\i+k=x.length/\out.length=n/\c<=1/\lo 18446744073709551616 out/\
    bv 18446744073709551616 out+18446744073709551616^i*c=bv 18446744073709551616 (x.take i)+bv 18446744073709551616 (y.take i)/\(∀m,i<=m->out.getD m 0=0))->
   ∃ex s',D P L (.loop [0,1,5,6,21,22] z6) s=some (ex,s')/\∃tm c out,s'=⟨tm,[(0,.cells true true true 1 (out.map uc))],1,0⟩/\ex= .exit 0/\ah tm 0=v/\ah tm 5= .ay 0 0 n/\ah tm 6=uc c/\out.length=n/\c<=1/\lo 18446744073709551616 out/\
    bv 18446744073709551616 out+18446744073709551616^x.length*c=bv 18446744073709551616 x+bv 18446744073709551616 y/\out.getD x.length 0=0:=by
 intro dq sq;generalize bz:aV [0,1,5,6,21,22] sq=s0;revert bz s0 sq dq;apply eb;rintro k s ⟨i,c,out,rfl,hk,hlen,hc,aY,aI,eY⟩;by_cases hi:i<x.length
 ·left
  have hz:=eY i (yv _);have je:=acW (x:=x) (y:=y) (show i<out.length by omega) hz aI;have gx:=fy (show 0<18446744073709551616 by decide) hx i;have gy:=fy (show 0<18446744073709551616 by decide) hy i;have e1:=Ag (P:=P) (f:=D P L) fh gx gy hc;have ex:=hv.bt hi;generalize x.getD i 0=p at*
  by_cases hj:i<y.length
  ·have ey:=hw.bt hj;generalize y.getD i 0=q at*
   simp only [go_sem,ya,yo,z6,hw.len,show (i:Int)<x.length by omega,show (i:Int)<y.length by omega,ex,ey,e1,cK 0 0 (show i<n by omega),yj,iY (l:=out) (o:=i) (by omega)]
   refine ⟨_,k-1,rfl,by omega,i+1,(p+q+c)/18446744073709551616,_,?_,by omega,by simp [hlen],by omega,jW aY (x:=(p+q+c)%18446744073709551616) (i:=i) (by omega),je,fun m hm=>?_⟩
   ·rw [wrap64 (by omega) (by omega)];simp only [go_sem,ya,yc,aA,aB hv.pu,aE _ hv.pu,aB hw.pu,aE _ hw.pu]<;>rfl
   ·rw [mA (by omega)];exact eY m (by omega)
  ·have iF:y.getD i 0=0:=MY (by omega);rw [iF] at je e1;rw [show (uc 0)=AV.int .u64 0 from rfl] at e1
   simp only [go_sem,ya,yo,z6,hw.len,show (i:Int)<x.length by omega,show ¬(i:Int)<y.length by omega,ex,e1,cK 0 0 (show i<n by omega),yj,iY (l:=out) (o:=i) (by omega)]
   refine ⟨_,k-1,rfl,by omega,i+1,(p+0+c)/18446744073709551616,_,?_,by omega,by simp [hlen],by omega,jW aY (x:=(p+0+c)%18446744073709551616) (i:=i) (by omega),je,fun m hm=>?_⟩
   ·rw [wrap64 (by omega) (by omega)];simp only [go_sem,ya,yc,aA,aB hv.pu,aE _ hv.pu,aB hw.pu,aE _ hw.pu]<;>rfl
   ·rw [mA (by omega)];exact eY m (by omega)
 ·right
  have:i=x.length:=by omega
  subst this;rw [xy,yD ly] at aI;simp only [go_sem,ya,z6,show ¬(x.length:Int)<x.length by omega];exact ⟨_,_,rfl,by simp,_,c,out,rfl,rfl,by simp only [go_sem,ya],by simp only [go_sem,ya],by simp only [go_sem,ya],hlen,hc,aY,aI,eY _ (yv _)⟩
def amV (h:Has P L 157 FJ) (ki:Has P L 166 sB) (fh:L.pure 171=some lE) {v w:AV} {x y:List Nat} (hv:bw v x) (hw:bw w y) (hx:lo 18446744073709551616 x) (hy:lo 18446744073709551616 y) (lx:x.length<=99999999999) (ly:y.length<=99999999999):
  ∃r out,ai P L 157 [v,w] r/\bw r out/\lo 18446744073709551616 out/\fo out/\bv 18446744073709551616 out=bv 18446744073709551616 x+bv 18446744073709551616 y:=by
 have fin:∀{x y o:List Nat} {n c:Nat},n=x.length+1->x.length<=99999999999->o.length=n->c<=1->lo 18446744073709551616 o->bv 18446744073709551616 o+18446744073709551616^x.length*c=bv 18446744073709551616 x+bv 18446744073709551616 y->o.getD x.length 0=0->
   ∃r,bA P L (D P L) 166 [.aq true n ((o.set x.length c).map uc)]=some r/\bw r (dt (o.set x.length c))/\lo 18446744073709551616 (dt (o.set x.length c))/\fo (dt (o.set x.length c))/\bv 18446744073709551616 (dt (o.set x.length c))=bv 18446744073709551616 x+bv 18446744073709551616 y:=by
  intro x y o n c hn lx hlen hc aY aI hz;have a6:=lG (b:=18446744073709551616) (l:=o) (i:=x.length) (x:=c) (by omega);rw [hz,xz,yX,aI] at a6;have amW:lo 18446744073709551616 (o.set x.length c):=jW aY (by omega);have hf:=kE true (o.set x.length c);rw [List.length_set,hlen] at hf;obtain ⟨r,e1,hr⟩:=sK ki hf (by simp;omega);exact ⟨r,e1,hr,rI amW,rH _,by rw [rG];exact a6⟩
 by_cases hl:x.length<y.length
 ·obtain ⟨n,hn⟩:∃n,n=y.length+1:=⟨_,rfl⟩;unfold ai;rw [aK h]
  simp only [go_sem,ya,yc,FJ,hv.len,hw.len,show (x.length:Int)<y.length by omega,wrapN (n:=n) (by omega),show (y.length:Int)+1=((y.length+1:Nat):Int) from rfl,<-hn,AL (n:=n) _ (by omega)];generalize hq:D P L (.loop [0,1,5,6,21,22] z6) _=q;obtain ⟨ex,s,rfl,tm,c,o,rfl,rfl,t0,t5,t6,hlen,hc,aY,aI,hz⟩:=bP hq (UR (P:=P) (L:=L) fh hw hv hy hx ly (by omega) hn y.length)
   ⟨0,0,yC n 0,by simp only [go_sem,ya,yc,aA,aB hv.pu,aE _ hv.pu,aB hw.pu,aE _ hw.pu]<;>rfl,by omega,by simp,by omega,BY (by decide) n,by rw [BZ];simp [bv],fun m _=>zT n m⟩
  obtain ⟨r,e1,hr,f1,f2,f3⟩:=fin hn ly hlen hc aY aI hz;refine ⟨r,_,?_,hr,f1,f2,by rw [f3];omega⟩
  simp only [go_sem,ya,yo,aA,aB hw.pu,aE _ hw.pu,hw.len,t0,t5,t6,cK 0 0 (show y.length<n by omega),yj,iY (l:=o) (o:=y.length) (by omega)]
  simp only [go_sem,sJ _ (n:=n) (l:=o.set y.length c) (by simp [hlen]) true,e1,hr.shut,hr.eT]
 ·obtain ⟨n,hn⟩:∃n,n=x.length+1:=⟨_,rfl⟩;unfold ai;rw [aK h]
  simp only [go_sem,ya,yc,FJ,hv.len,hw.len,show ¬(x.length:Int)<y.length by omega,wrapN (n:=n) (by omega),show (x.length:Int)+1=((x.length+1:Nat):Int) from rfl,<-hn,AL (n:=n) _ (by omega)];generalize hq:D P L (.loop [0,1,5,6,21,22] z6) _=q;obtain ⟨ex,s,rfl,tm,c,o,rfl,rfl,t0,t5,t6,hlen,hc,aY,aI,hz⟩:=bP hq (UR (P:=P) (L:=L) fh hv hw hx hy lx (by omega) hn x.length)
   ⟨0,0,yC n 0,by simp only [go_sem,ya,yc,aA,aB hv.pu,aE _ hv.pu,aB hw.pu,aE _ hw.pu]<;>rfl,by omega,by simp,by omega,BY (by decide) n,by rw [BZ];simp [bv],fun m _=>zT n m⟩
  obtain ⟨r,e1,hr,f1,f2,f3⟩:=fin hn lx hlen hc aY aI hz;refine ⟨r,_,?_,hr,f1,f2,f3⟩
  simp only [go_sem,ya,yo,aA,aB hv.pu,aE _ hv.pu,hv.len,t0,t5,t6,cK 0 0 (show x.length<n by omega),yj,iY (l:=o) (o:=x.length) (by omega)]
  simp only [go_sem,sJ _ (n:=n) (l:=o.set x.length c) (by simp [hlen]) true,e1,hr.shut,hr.eT]
end
def acY {b:Nat} {out:List Nat} {p j c t o x y Y bo ba:Nat} (ho:o=out.getD j 0) (hj:j<out.length) (ht:t=o+x*y+c) (hv:bo+p*c=ba+p*(x*Y)) (hb:bo=bv b out) (hp:p=b^j):
  bv b (out.set j (t%b))+p*b*(t/b)=ba+p*(x*(Y+0))+p*(x*y):=by
 have h1:=lG (b:=b) (x:=t%b) hj;have h2:=HP p b t
 grind
section
variable {P:aR} {L:Lib}
def Mk {x y c:Nat} (hx:x<18446744073709551616) (hy:y<18446744073709551616) (hc:c<=1):
  (x+18446744073709551616*2-y-c)%18446744073709551616+y+c=x+18446744073709551616*(if y+c<=x then 0 else 1):=by grind
def ajW (oJ:L.pure 173=some rR) {v w:AV} {x y:List Nat} (hv:bw v x) (hw:bw w y) (hx:lo 18446744073709551616 x) (hy:lo 18446744073709551616 y) (lx:x.length<=99999999999) (ly:y.length<=x.length) (hle:bv 18446744073709551616 y<=bv 18446744073709551616 x) {n:Nat} (hn:n=x.length):
  ∀k s,(∃(i c:Nat) (out:List Nat),aV [0,1,5,6,13,14] s=⟨[(0,v),(1,w),(5,.ay 0 0 n),(6,uc c),(13,aa x.length),(14,aa i)],[(0,.cells true true true 1 (out.map uc))],1,0⟩/\i+k=x.length/\out.length=n/\c<=1/\lo 18446744073709551616 out/\
    bv 18446744073709551616 out+bv 18446744073709551616 (y.take i)=bv 18446744073709551616 (x.take i)+18446744073709551616^i*c/\(∀m,i<=m->out.getD m 0=0))->
   ∃ex s',D P L (.loop [0,1,5,6,13,14] BQ) s=some (ex,s')/\∃tm out,s'=⟨tm,[(0,.cells true true true 1 (out.map uc))],1,0⟩/\ex= .exit 0/\ah tm 5= .ay 0 0 n/\out.length=n/\lo 18446744073709551616 out/\
    bv 18446744073709551616 out+bv 18446744073709551616 y=bv 18446744073709551616 x:=by
 intro dq sq;generalize bz:aV [0,1,5,6,13,14] sq=s0;revert bz s0 sq dq;apply eb;rintro k s ⟨i,c,out,rfl,hk,hlen,hc,aY,aI,eY⟩;by_cases hi:i<x.length
 ·left
  have hz:=eY i (yv _);have gx:=fy (show 0<18446744073709551616 by decide) hx i;have gy:=fy (show 0<18446744073709551616 by decide) hy i;have KM:=Mk gx gy hc;have je:=acX (x:=x) (y:=y) (show i<out.length by omega) hz KM aI;have e1:=M1 (P:=P) (f:=D P L) oJ gx gy hc;have ex:=hv.bt hi;generalize x.getD i 0=p at*
  have jO:(if y.getD i 0+c<=p then 0 else 1)<=1:=by split<;>omega
  by_cases hj:i<y.length
  ·have ey:=hw.bt hj;generalize y.getD i 0=q at*
   generalize (if q+c<=p then 0 else 1)=c1 at*
   simp only [go_sem,ya,xk,yo,BQ,hw.len,show (i:Int)<x.length by omega,show (i:Int)<y.length by omega,ex,ey,e1,cK 0 0 (show i<n by omega),yj,iY (l:=out) (o:=i) (by omega)]
   refine ⟨_,k-1,rfl,by omega,i+1,c1,_,?_,by omega,by simp [hlen],jO,jW aY (x:=(p+18446744073709551616*2-q-c)%18446744073709551616) (i:=i) (by omega),je,fun m hm=>?_⟩
   ·rw [wrap64 (by omega) (by omega)];simp only [go_sem,ya,yc,xk,aA,aB hv.pu,aE _ hv.pu,aB hw.pu,aE _ hw.pu]<;>rfl
   ·rw [mA (by omega)];exact eY m (by omega)
  ·have iF:y.getD i 0=0:=MY (by omega);rw [iF] at je e1 jO;rw [show (uc 0)=AV.int .u64 0 from rfl] at e1;generalize (if 0+c<=p then 0 else 1)=c1 at*
   simp only [go_sem,ya,xk,yo,BQ,hw.len,show (i:Int)<x.length by omega,show ¬(i:Int)<y.length by omega,ex,e1,cK 0 0 (show i<n by omega),yj,iY (l:=out) (o:=i) (by omega)]
   refine ⟨_,k-1,rfl,by omega,i+1,c1,_,?_,by omega,by simp [hlen],jO,jW aY (x:=(p+18446744073709551616*2-0-c)%18446744073709551616) (i:=i) (by omega),je,fun m hm=>?_⟩
   ·rw [wrap64 (by omega) (by omega)];simp only [go_sem,ya,yc,xk,aA,aB hv.pu,aE _ hv.pu,aB hw.pu,aE _ hw.pu]<;>rfl
   ·rw [mA (by omega)];exact eY m (by omega)
 ·right
  have:i=x.length:=by omega
  subst this;rw [xy,yD ly] at aI;have aO:=jZ aY;rw [hlen,hn] at aO;simp only [go_sem,ya,BQ,show ¬(x.length:Int)<x.length by omega];refine ⟨_,_,rfl,by simp,_,out,rfl,rfl,by simp only [go_sem,ya],hlen,aY,?_⟩;rcases (show c=0\/c=1 by omega) with rfl | rfl
  ·omega
  ·omega
def WT (h:Has P L 159 JG) (ki:Has P L 166 sB) (oJ:L.pure 173=some rR) {v w:AV} {x y:List Nat} (hv:bw v x) (hw:bw w y) (hx:lo 18446744073709551616 x) (hy:lo 18446744073709551616 y) (ny:fo y) (lx:x.length<=99999999999) (hle:bv 18446744073709551616 y<=bv 18446744073709551616 x):
  ∃r out,ai P L 159 [v,w] r/\bw r out/\lo 18446744073709551616 out/\fo out/\bv 18446744073709551616 out+bv 18446744073709551616 y=bv 18446744073709551616 x:=by
 have ly:y.length<=x.length:=by
  by_cases hh:x.length<y.length
  ·have:=IE (b:=18446744073709551616) (by decide) hx ny hh
   omega
  ·omega
 obtain ⟨n,hn⟩:∃n,n=x.length:=⟨_,rfl⟩;unfold ai;rw [aK h]
 simp only [go_sem,ya,yc,JG,hv.len,<-hn,AL (n:=n) _ (by omega)];generalize hq:D P L (.loop [0,1,5,6,13,14] BQ) _=q;obtain ⟨ex,s,rfl,tm,o,rfl,rfl,t5,hlen,aY,aI⟩:=bP hq (ajW (P:=P) (L:=L) oJ hv hw hx hy lx ly hle hn x.length)
  ⟨0,0,yC n 0,by rw [hn];simp only [go_sem,ya,yc,aA,aB hv.pu,aE _ hv.pu,aB hw.pu,aE _ hw.pu]<;>rfl,by omega,by simp,by omega,BY (by decide) n,by rw [BZ];simp [bv],fun m _=>zT n m⟩
 have hf:=kE true o;rw [hlen] at hf;obtain ⟨r,e1,hr⟩:=sK ki hf (by omega);refine ⟨r,_,?_,hr,rI aY,rH _,by rw [rG];exact aI⟩
 simp only [go_sem,yc,aA,t5,sJ _ (n:=n) (l:=o) hlen true,e1,hr.shut,hr.eT]
def ae6 {x y o c:Nat} (hx:x<18446744073709551616) (hy:y<18446744073709551616) (ho:o<18446744073709551616) (hc:c<18446744073709551616):
  o+x*y+c<18446744073709551616*18446744073709551616/\
  ((x*y%18446744073709551616+o+0)%18446744073709551616+c+0)%18446744073709551616=(o+x*y+c)%18446744073709551616/\
  x*y/18446744073709551616+(x*y%18446744073709551616+o+0)/18446744073709551616+((x*y%18446744073709551616+o+0)%18446744073709551616+c+0)/18446744073709551616=(o+x*y+c)/18446744073709551616:=by
 have h1:=Nat.mul_le_mul (show x<=18446744073709551615 by omega) (show y<=18446744073709551615 by omega)
 grind
def ajX (kj:L.pure 143=some og) (fh:L.pure 171=some lE) {v w:AV} {x y:List Nat} (hv:bw v x) (hw:bw w y) (hx:lo 18446744073709551616 x) (hy:lo 18446744073709551616 y) (lx:x.length<=49999999999) (ly:y.length<=49999999999) {n i:Nat} (hn:n=x.length+y.length) (hi:i<x.length) {a:Nat} (ha:a<18446744073709551616) {bo:Nat}:
  ∀k s,(∃(j c:Nat) (out:List Nat),aV [1,5,6,7,8,20,21,22,27,28,29] s=⟨[(1,w),(5,.ay 0 0 n),(6,aa i),(7,uc a),(8,uc c),(20,v),(21,aa x.length),(22,aa i),(27,w),(28,aa y.length),(29,aa j)],[(0,.cells true true true 1 (out.map uc))],1,0⟩/\j+k=y.length/\out.length=n/\c<18446744073709551616/\lo 18446744073709551616 out/\
    bv 18446744073709551616 out+18446744073709551616^(i+j)*c=bo+18446744073709551616^i*(a*bv 18446744073709551616 (y.take j))/\(∀m,i+y.length<=m->out.getD m 0=0))->
   ∃ex s',D P L (.loop [1,5,6,7,8,20,21,22,27,28,29] EU) s=some (ex,s')/\∃tm c out,s'=⟨tm,[(0,.cells true true true 1 (out.map uc))],1,0⟩/\ex= .exit 2/\ah tm 1=w/\ah tm 5= .ay 0 0 n/\ah tm 6=aa i/\ah tm 8=uc c/\ah tm 20=v/\ah tm 21=aa x.length/\ah tm 22=aa i/\out.length=n/\c<18446744073709551616/\lo 18446744073709551616 out/\
    bv 18446744073709551616 out+18446744073709551616^(i+y.length)*c=bo+18446744073709551616^i*(a*bv 18446744073709551616 y)/\(∀m,i+y.length<=m->out.getD m 0=0):=by
 intro dq sq;generalize bz:aV [1,5,6,7,8,20,21,22,27,28,29] sq=s0;revert bz s0 sq dq;apply eb;rintro k s ⟨j,c,out,rfl,hk,hlen,hc,aY,aI,eY⟩;by_cases hj:j<y.length
 ·left
  have zh:(0:Nat)<18446744073709551616:=by decide
  have gy:=fy zh hy j;have kZ:=fy zh aY (i+j);have ey:=hw.bt hj;have e3:=p6 (l:=out) (o:=i+j) (by omega);obtain ⟨q,hq⟩:∃q,q=y.getD j 0:=⟨_,rfl⟩;obtain ⟨o,ho⟩:∃o,o=out.getD (i+j) 0:=⟨_,rfl⟩;rw [<-hq] at gy ey;rw [<-ho] at kZ e3;obtain ⟨m1,m2,m3⟩:=ae6 ha gy kZ hc;have hpy:a*q<18446744073709551616*18446744073709551616:=by omega
  have f1:=I2 (P:=P) (f:=D P L) kj ha gy;have f2:=Ag (P:=P) (f:=D P L) fh (x:=a*q%18446744073709551616) (y:=o) (c:=0) (xq _ zh) kZ (by omega);have f3:=Ag (P:=P) (f:=D P L) fh (x:=(a*q%18446744073709551616+o+0)%18446744073709551616) (y:=c) (c:=0) (xq _ zh) hc (by omega);obtain ⟨t,ht⟩:∃t,t=o+a*q+c:=⟨_,rfl⟩;have je:=acY (b:=18446744073709551616) (out:=out) (p:=18446744073709551616^(i+j)) (j:=i+j) (c:=c) (t:=t) (x:=a) (y:=q) (Y:=0) (ba:=bo+18446744073709551616^i*(a*bv 18446744073709551616 (y.take j))) ho (by omega) ht (by simpa using aI) rfl rfl;rw [m2,<-ht] at f3;rw [<-ht] at m1 m3;obtain ⟨d1,nd⟩:∃d,d=(a*q%18446744073709551616+o+0)/18446744073709551616:=⟨_,rfl⟩;obtain ⟨d2,ig⟩:∃d,d=((a*q%18446744073709551616+o+0)%18446744073709551616+c+0)/18446744073709551616:=⟨_,rfl⟩;rw [<-nd] at f2 m3;rw [<-ig] at f3 m3
  rw [show (uc 0)=AV.int .u64 0 from rfl] at f2 f3;obtain ⟨h1,fI⟩:∃d,d=a*q/18446744073709551616:=⟨_,rfl⟩;rw [<-fI] at f1 m3;have kT:h1+d1<18446744073709551616:=by omega
  have qU:h1+d1+d2<18446744073709551616:=by omega
  simp only [go_sem,ya,yo,EU,show (j:Int)<y.length by omega,ey,f1,wrapN (n:=i+j) (by omega),show (i:Int)+(j:Int)=((i+j:Nat):Int) from rfl,cK 0 0 (show i+j<n by omega),yj,e3,f2,f3,show (h1:Int)+(d1:Int)=((h1+d1:Nat):Int) from rfl,V3 kT,show ((h1+d1:Nat):Int)+(d2:Int)=((h1+d1+d2:Nat):Int) from rfl,V3 qU,iY (l:=out) (o:=i+j) (by omega)]
  refine ⟨_,k-1,rfl,by omega,j+1,h1+d1+d2,_,?_,by omega,by simp [hlen],qU,jW aY (x:=t%18446744073709551616) (i:=i+j) (xq _ zh),?_,fun m hm=>?_⟩
  ·rw [wrap64 (by omega) (by omega)];simp only [go_sem,ya,yc,aA,aB hv.pu,aE _ hv.pu,aB hw.pu,aE _ hw.pu]<;>rfl
  ·rw [m3,show i+(j+1)=i+j+1 by omega,y9,gZ,<-hq,xt a,xt (18446744073709551616^i)];simp only [xz,yX] at je;rw [je,Nat.pow_add,<-Nat.add_assoc,xf (18446744073709551616^i),<-xf a,Nat.mul_comm a (18446744073709551616^j),xf]
  ·rw [mA (by omega)];exact eY m hm
 ·right
  have:j=y.length:=by omega
  subst this;rw [xy] at aI;simp only [go_sem,ya,EU,show ¬(y.length:Int)<y.length by omega];exact ⟨_,_,rfl,by simp,_,c,out,rfl,rfl,by simp only [go_sem,ya],by simp only [go_sem,ya],by simp only [go_sem,ya],by simp only [go_sem,ya],by simp only [go_sem,ya],by simp only [go_sem,ya],by simp only [go_sem,ya],hlen,hc,aY,aI,eY⟩
def ajY (kj:L.pure 143=some og) (fh:L.pure 171=some lE) {v w:AV} {x y:List Nat} (hv:bw v x) (hw:bw w y) (hx:lo 18446744073709551616 x) (hy:lo 18446744073709551616 y) (lx:x.length<=49999999999) (ly:y.length<=49999999999) {n:Nat} (hn:n=x.length+y.length):
  ∀k s,(∃(i:Nat) (out:List Nat),aV [1,5,20,21,22] s=⟨[(1,w),(5,.ay 0 0 n),(20,v),(21,aa x.length),(22,aa i)],[(0,.cells true true true 1 (out.map uc))],1,0⟩/\i+k=x.length/\out.length=n/\lo 18446744073709551616 out/\
    bv 18446744073709551616 out=bv 18446744073709551616 (x.take i)*bv 18446744073709551616 y/\(∀m,i+y.length<=m->out.getD m 0=0))->
   ∃ex s',D P L (.loop [1,5,20,21,22] EV) s=some (ex,s')/\∃tm out,s'=⟨tm,[(0,.cells true true true 1 (out.map uc))],1,0⟩/\ex= .exit 0/\ah tm 5= .ay 0 0 n/\out.length=n/\lo 18446744073709551616 out/\
    bv 18446744073709551616 out=bv 18446744073709551616 x*bv 18446744073709551616 y:=by
 intro dq sq;generalize bz:aV [1,5,20,21,22] sq=s0;revert bz s0 sq dq;apply eb;rintro k s ⟨i,out,rfl,hk,hlen,aY,aI,eY⟩;by_cases hi:i<x.length
 ·left
  have gx:=fy (show 0<18446744073709551616 by decide) hx i;have ex:=hv.bt hi;obtain ⟨a,ha⟩:∃a,a=x.getD i 0:=⟨_,rfl⟩;simp only [go_sem,ya,EV,hw.len,show (i:Int)<x.length by omega,ex];generalize hq:D P L (.loop [1,5,6,7,8,20,21,22,27,28,29] EU) _=q;obtain ⟨ex,s,rfl,tm,c,oK,rfl,rfl,t1,t5,t6,t8,t20,t21,t22,NA,hc,amX,NB,F7⟩:=bP hq (ajX (P:=P) (L:=L) kj fh hv hw hx hy lx ly hn hi gx (bo:=bv 18446744073709551616 out) y.length)
   ⟨0,0,out,by simp only [go_sem,ya,yc,aA,aB hv.pu,aE _ hv.pu,aB hw.pu,aE _ hw.pu]<;>rfl,by omega,hlen,by decide,aY,by simp [bv],eY⟩
  have hz:oK.getD (i+y.length) 0=0:=F7 _ (yv _);have a6:=lG (b:=18446744073709551616) (l:=oK) (i:=i+y.length) (x:=c) (by omega);rw [hz,xz,yX,NB] at a6
  simp only [go_sem,ya,yo,aA,t1,t5,t6,t8,t20,t21,t22,hw.len,aB hv.pu,aE _ hv.pu,aB hw.pu,aE _ hw.pu,wrapN (n:=i+y.length) (by omega),show (i:Int)+(y.length:Int)=((i+y.length:Nat):Int) from rfl,cK 0 0 (show i+y.length<n by omega),yj,iY (l:=oK) (o:=i+y.length) (by omega)];refine ⟨_,k-1,rfl,by omega,i+1,oK.set (i+y.length) c,?_,by omega,by simp [NA],jW amX hc,?_,fun m hm=>?_⟩
  ·rw [wrap64 (by omega) (by omega)];simp only [go_sem,ya,yc,aA,aB hv.pu,aE _ hv.pu,aB hw.pu,aE _ hw.pu]<;>rfl
  ·rw [a6,aI,gZ,Nat.add_mul,<-ha,xf]
  ·rw [mA (by omega)];exact F7 m (by omega)
 ·right
  have:i=x.length:=by omega
  subst this;rw [xy] at aI;simp only [go_sem,ya,EV,show ¬(x.length:Int)<x.length by omega];exact ⟨_,_,rfl,by simp,_,out,rfl,rfl,by simp only [go_sem,ya],hlen,aY,aI⟩
def amY (h:Has P L 144 JD) (ki:Has P L 166 sB) (kj:L.pure 143=some og) (fh:L.pure 171=some lE) {v w:AV} {x y:List Nat} (hv:bw v x) (hw:bw w y) (hx:lo 18446744073709551616 x) (hy:lo 18446744073709551616 y) (lx:x.length<=49999999999) (ly:y.length<=49999999999):
  ∃r out,ai P L 144 [v,w] r/\bw r out/\lo 18446744073709551616 out/\fo out/\bv 18446744073709551616 out=bv 18446744073709551616 x*bv 18446744073709551616 y:=by
 obtain ⟨n,hn⟩:∃n,n=x.length+y.length:=⟨_,rfl⟩;unfold ai;rw [aK h]
 simp only [go_sem,ya,yc,JD,hv.len,hw.len,wrapN (n:=n) (by omega),show (x.length:Int)+(y.length:Int)=((x.length+y.length:Nat):Int) from rfl,<-hn,AL (n:=n) _ (by omega)];generalize hq:D P L (.loop [1,5,20,21,22] EV) _=q;obtain ⟨ex,s,rfl,tm,o,rfl,rfl,t5,hlen,aY,aI⟩:=bP hq (ajY (P:=P) (L:=L) kj fh hv hw hx hy lx ly hn x.length)
  ⟨0,yC n 0,by simp only [go_sem,ya,yc,aA,aB hv.pu,aE _ hv.pu,aB hw.pu,aE _ hw.pu]<;>rfl,by omega,by simp,BY (by decide) n,by rw [BZ];simp [bv],fun m _=>zT n m⟩
 have hf:=kE true o;rw [hlen] at hf;obtain ⟨r,e1,hr⟩:=sK ki hf (by omega);refine ⟨r,_,?_,hr,rI aY,rH _,by rw [rG];exact aI⟩
 simp only [go_sem,yc,aA,t5,sJ _ (n:=n) (l:=o) hlen true,e1,hr.shut,hr.eT]
end
end VE
