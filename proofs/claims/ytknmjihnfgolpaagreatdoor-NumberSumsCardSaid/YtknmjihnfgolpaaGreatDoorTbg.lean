import Derived.Test.YtknmjihnfgolpaaGreatDoorTbf
import Derived.Test.YtknmjihnfgolpaaGreatDoorTbe
import Derived.Test.YtknmjihnfgolpaaGreatDoorTao
set_option linter.all false
set_option maxRecDepth 100000
open Nat (reduceAdd reduceEqDiff reduceLeDiff)
section
namespace VE
open Go (IntKind)
section
variable {P:zU} {L:Lib} {f:Run} {tm:Env} {hp:Hp} {ct:Nat}
theorem zub (k:IntKind) (n:Int):cellsOf (.int k n)=[.int k n]:=(rfl)
theorem zpf (b:Bool):cellsOf (.bool b)=[.bool b]:=(rfl)
theorem zvj (s:List Nat):cellsOf (.str s)=[.str s]:=(rfl)
theorem zpQ:cellsOf .nils=[.nils]:=(rfl)
theorem zuR (e:Bool) (n:Nat) (cs:List AV):cellsOf (.vsl e n cs)=[.vsl e n cs]:=(rfl)
theorem zuh (id o n:Nat):cellsOf (.osl id o n)=[.osl id o n]:=(rfl)
theorem zuC (id o:Nat):cellsOf (.ptr id o)=[.ptr id o]:=(rfl)
theorem zxg (g:Fr) (a b:List AV):cellsOf (.fn g a b)=[.fn g a b]:=(rfl)
theorem zuc (cs:List AV):cellsOf (.agg cs)=cs:=(rfl)
theorem zmx (k:IntKind) (n:Int):zag (.int k n)=true:=(rfl)
theorem zxa (b:Bool):zag (.bool b)=true:=(rfl)
theorem zBh (s:List Nat):zag (.str s)=true:=(rfl)
theorem zy1:zag .nils=true:=(rfl)
theorem zCO (e:Bool) (n:Nat) (cs:List AV):zag (.vsl e n cs)=true:=(rfl)
theorem zA6 (id o n:Nat):zag (.osl id o n)=true:=(rfl)
theorem zDv (id o:Nat):zag (.ptr id o)=true:=(rfl)
theorem zLF (g:Fr) (a b:List AV):zag (.fn g a b)=true:=(rfl)
theorem zxj:zM []=true:=(rfl)
theorem zlO (v:AV) (r:List AV):zM (v::r)=(zag v&&zM r):=(rfl)
theorem zvw:zp []=true:=(rfl)
theorem zpK (v:AV) (r:List AV):zp (v::r)=(zA v&&zp r):=(rfl)
theorem zHb (id o:Nat):zA (.ptr id o)=false:=(rfl)
theorem zMm (id o n:Nat):zA (.osl id o n)=false:=(rfl)
theorem zNq (g:Nat) (a b:List AV):zA (.fn (.f g) a b)=(zp a&&zp b):=(rfl)
theorem zRy (l:Nat) (a b:List AV):zA (.fn (.y l) a b)=false:=(rfl)
theorem zGN (cs:List AV):zA (.agg cs)=zp cs:=(rfl)
theorem zKk (cs:List AV):zA (.tup cs)=zp cs:=(rfl)
def zpg (ct sz:Nat) (cs:List AV):Option (AV×Obj):=bif Nat.beq cs.length sz&&zM cs then some (.ptr ct 0,.cells true (zp cs) true sz cs) else none
theorem zLy (sz:Nat) (x:X):zac tm hp ct (.box sz x)=zpg ct sz (cellsOf (zq tm x)):=rfl
theorem zO9 {v:AV} (h:zag v=true):zpg ct 1 [v]=some (.ptr ct 0,.cells true (zA v&&true) true 1 [v]):=by
 simp [zpg,zM,zp,h]
theorem zo {cs:List AV} {n:Nat} (hn:cs.length=n) (h:zM cs=true):zpg ct n cs=some (.ptr ct 0,.cells true (zp cs) true n cs):=by
 subst hn;simp [zpg,h]
def stC (hp:Hp) (ct id o sz:Nat) (new:List AV) (q:Option Obj):Res:=
 match q with
 | some (.cells true pu ex z cs)=>bif Nat.beq new.length sz&&Nat.ble (o+sz) cs.length&&zM new then some (.tup [],zad hp id (.cells true (pu&&zp new) ex z (zck o new cs)),ct) else none
 | _=>none
def stV (hp:Hp) (ct sz:Nat) (p:AV) (new:List AV):Res:=match p with | .ptr id o=>stC hp ct id o sz new (zt hp id) | _=>none
theorem znk (sz:Nat) (x v:X):zX tm hp ct (.st sz x v)=stV hp ct sz (zq tm x) (cellsOf (zq tm v)):=rfl
theorem zDF (sz id o:Nat) (new:List AV):stV hp ct sz (.ptr id o) new=stC hp ct id o sz new (zt hp id):=rfl
theorem zQn {v u:AV} {id z:Nat} {pu ex:Bool} (h:zag v=true):stC hp ct id 0 1 [v] (some (.cells true pu ex z [u]))=some (.tup [],zad hp id (.cells true (pu&&(zA v&&true)) ex z [v]),ct):=by
 simp [stC,zM,zp,h,zck];rfl
theorem zn8 {new cs:List AV} {id o sz z:Nat} {pu ex:Bool} (h1:new.length=sz) (h2:o+sz≤cs.length) (h:zM new=true):
  stC hp ct id o sz new (some (.cells true pu ex z cs))=some (.tup [],zad hp id (.cells true (pu&&zp new) ex z (zck o new cs)),ct):=by
 subst h1;simp [stC,h,Nat.ble_eq_true_of_le h2]
def zqU (ct n sz:Nat) (q:Option (List AV)):Option (AV×Obj):=match q with | some cs=>bif Nat.beq cs.length (n*sz) then some (.osl ct 0 n,.cells true (zp cs) true sz cs) else none | none=>none
theorem zBN (n sz:Nat) (z:List AV) (ps:List (Nat×Nat×X)):zac tm hp ct (.mksl n sz z ps)=zqU ct n sz (fill tm z ps):=by
 simp only [zac,zqU];cases fill tm z ps<;>rfl
theorem zAt {n sz:Nat} {cs:List AV} (h:cs.length=n*sz):zqU ct n sz (some cs)=some (.osl ct 0 n,.cells true (zp cs) true sz cs):=by
 simp [zqU,h]
def zgm (tm:Env) (cs:List AV) (o sz:Nat) (new:List AV) (r:List (Nat×Nat×X)):Option (List AV):=
 bif Nat.beq new.length sz&&Nat.ble (o+sz) cs.length&&zM new then fill tm (zck o new cs) r else none
theorem zwc (cs:List AV):fill tm cs []=some cs:=rfl
theorem zuG (cs:List AV) (o sz:Nat) (x:X) (r:List (Nat×Nat×X)):fill tm cs ((o,sz,x)::r)=zgm tm cs o sz (cellsOf (zq tm x)) r:=rfl
theorem zsg {cs:List AV} {o:Nat} {v:AV} {r:List (Nat×Nat×X)} (h1:o+1≤cs.length) (h2:zag v=true):zgm tm cs o 1 [v] r=fill tm (zck o [v] cs) r:=by
 simp [zgm,zM,h2,Nat.ble_eq_true_of_le h1]
theorem zrD {cs new:List AV} {o sz:Nat} {r:List (Nat×Nat×X)} (h0:new.length=sz) (h1:o+sz≤cs.length) (h2:zM new=true):zgm tm cs o sz new r=fill tm (zck o new cs) r:=by
 subst h0;simp [zgm,h2,Nat.ble_eq_true_of_le h1]
theorem zPr (v u:AV) (r:List AV):zck 0 [v] (u::r)=v::r:=rfl
theorem zNt (v a u:AV) (r:List AV):zck 1 [v] (a::u::r)=a::v::r:=rfl
theorem zPm (v a b u:AV) (r:List AV):zck 2 [v] (a::b::u::r)=a::b::v::r:=rfl
theorem zOI (v a b c u:AV) (r:List AV):zck 3 [v] (a::b::c::u::r)=a::b::c::v::r:=rfl
theorem zOx (v a b c d u:AV) (r:List AV):zck 4 [v] (a::b::c::d::u::r)=a::b::c::d::v::r:=rfl
theorem zPo (v a b c d e u:AV) (r:List AV):zck 5 [v] (a::b::c::d::e::u::r)=a::b::c::d::e::v::r:=rfl
def zod (ct sz by':Nat) (zero:List AV) (l c:Option Nat):Option (AV×Obj):=
 match l,c with
 | some l,some c=>bif Nat.ble l c&&(Nat.ble c zcg&&(Nat.ble (c*by') zcg&&(Nat.beq zero.length sz&&zM zero))) then some (.osl ct 0 l,.cells true (zp zero) (Nat.beq l c) sz (List.replicate l zero).flatten) else none
 | _,_=>none
theorem zIr (sz by':Nat) (z:List AV) (l c:X):zac tm hp ct (.mks sz by' z l c)=zod ct sz by' z (zaN (zq tm l)) (zaN (zq tm c)):=by
 simp only [zac,zod];cases zaN (zq tm l)<;>cases zaN (zq tm c)<;>rfl
theorem zml {sz by' l:Nat} {z:List AV} (h1:l≤1099511627776) (h2:l*by'≤1099511627776) (h3:z.length=sz) (h4:zM z=true):
  zod ct sz by' z (some l) (some l)=some (.osl ct 0 l,.cells true (zp z) true sz (List.replicate l z).flatten):=by
 subst h3;simp [zod,h4,Nat.ble_eq_true_of_le (show l≤zcg from h1),Nat.ble_eq_true_of_le (show l*by'≤zcg from h2),Nat.ble_eq_true_of_le (Nat.le_refl l)]
def zpc (hp:Hp) (ct sz by':Nat) (s:AV) (src:Option (Nat×List AV)):Res:=
 match src with
 | none=>none
 | some (m,new)=>
  match s with
  | .nils=>
   bif Nat.beq m 0 then some (.nils,hp,ct)
   else bif Nat.ble m zcg&&(Nat.ble (m*by') zcg&&Nat.blt 0 sz) then some (.osl ct 0 m,(ct,.cells true (zp new) false sz new)::hp,ct+1) else none
  | .vsl true n cs=>
   bif Nat.beq m 0 then some (.vsl true n cs,hp,ct)
   else bif Nat.ble (n+m) zcg&&(Nat.ble ((n+m)*by') zcg&&(Nat.beq cs.length (n*sz)&&Nat.blt 0 sz)) then some (.osl ct 0 (n+m),(ct,.cells true (zp cs&&zp new) false sz (cs++new))::hp,ct+1) else none
  | .osl id o n=>
   match zt hp id with
   | some (.cells true pu _ z cs)=>
    bif Nat.beq z sz&&(Nat.ble (n+m) zcg&&(Nat.ble ((n+m)*by') zcg&&(Nat.ble (o+n*sz) cs.length&&(Nat.blt 0 sz&&zM new)))) then
     some (.osl ct 0 (n+m),(ct,.cells true (pu&&zp new) false sz (slice o (n*sz) cs++new))::hdel hp id,ct+1)
    else none
   | _=>none
  | _=>none
theorem zuE (sz by':Nat) (s x:X):zX tm hp ct (.app sz by' s x)=zpc hp ct sz by' (zq tm s) (zeV hp sz (zq tm x)):=by
 simp only [zX,zpc]
 cases zeV hp sz (zq tm x) with
 | none=>rfl
 | some q=>obtain ⟨m,new⟩:=q;cases zq tm s<;>rfl
theorem zpr (sz id o n:Nat):zeV hp sz (.osl id o n)=zcI hp sz (.osl id o n):=rfl
theorem zpp (sz:Nat) (e:Bool) (n:Nat) (cs:List AV):zeV hp sz (.vsl e n cs)=zcI hp sz (.vsl e n cs):=rfl
theorem znM (sz:Nat):zeV hp sz .nils=some (0,[]):=rfl
def atC (o n sz:Nat) (q:Option Obj):Option (Nat×List AV):=match q with | some (.cells _ _ _ _ cs)=>bif Nat.ble (o+n*sz) cs.length then some (n,slice o (n*sz) cs) else none | _=>none
theorem znF (sz id o n:Nat):zcI hp sz (.osl id o n)=atC o n sz (zt hp id):=rfl
theorem zOX (rw pu ex:Bool) (z:Nat) (v:AV):atC 0 1 1 (some (.cells rw pu ex z [v]))=some (1,[v]):=rfl
theorem zby {sz by':Nat} {new:List AV} {m:Nat} (hm:0<m) (h1:m≤1099511627776) (h2:m*by'≤1099511627776) (hs:0<sz):
  zpc hp ct sz by' .nils (some (m,new))=some (.osl ct 0 m,(ct,.cells true (zp new) false sz new)::hp,ct+1):=by
 have e1:Nat.beq m 0=false:=zaQ (by omega);have e2:Nat.blt 0 sz=true:=Nat.ble_eq_true_of_le hs;simp [zpc,e1,e2,Nat.ble_eq_true_of_le (show m≤zcg from h1),Nat.ble_eq_true_of_le (show m*by'≤zcg from h2)]
theorem zbZ {sz by' id n m:Nat} {pu ex:Bool} {cs new:List AV} (hg:zt hp id=some (.cells true pu ex sz cs)) (hl:cs.length=n*sz) (h1:n+m≤1099511627776) (h2:(n+m)*by'≤1099511627776) (hs:0<sz) (ho:zM new=true):
  zpc hp ct sz by' (.osl id 0 n) (some (m,new))=some (.osl ct 0 (n+m),(ct,.cells true (pu&&zp new) false sz (cs++new))::hdel hp id,ct+1):=by
 have e2:Nat.blt 0 sz=true:=Nat.ble_eq_true_of_le hs;simp only [zpc,hg];simp [e2,ho,Nat.ble_eq_true_of_le (show n+m≤zcg from h1),Nat.ble_eq_true_of_le (show (n+m)*by'≤zcg from h2),←hl,slice,Nat.ble_eq_true_of_le (Nat.le_refl cs.length)]
def zNX (n:Nat) (g:Nat) (cap:List AV) (q:Option (List AV×Hp)):Option (AV×Hp):=match q with | some (first,hp)=>(match zV n hp cap with | some (cap',hp2)=>some (.fn (.f g) first cap',hp2) | none=>none) | none=>none
def zOm (g:Nat) (first:List AV) (q:Option (List AV×Hp)):Option (AV×Hp):=match q with | some (cap,hp)=>some (.fn (.f g) first cap,hp) | none=>none
theorem zIB (n g:Nat) (first cap:List AV):zal (n+1) hp (.fn (.f g) first cap)=zNX n g cap (zV n hp first):=rfl
theorem zHM (n g:Nat) (first cap:List AV):zNX n g cap (some (first,hp))=zOm g first (zV n hp cap):=rfl
theorem zFX (g:Nat) (first cap:List AV):zOm g first (some (cap,hp))=some (.fn (.f g) first cap,hp):=rfl
def zN3 (o:Nat) (q:Option (Bool×Nat×List AV×Hp)):Option (AV×Hp):=match q with | some (_,_,cs,hp)=>some (.vptr (cs.drop o),hp) | none=>none
theorem zz7 (n id o:Nat):zal (n+1) hp (.ptr id o)=zN3 o (zbT n hp id):=rfl
theorem zGz (o:Nat) (ex:Bool) (sz:Nat) (cs:List AV):zN3 o (some (ex,sz,cs,hp))=some (.vptr (cs.drop o),hp):=rfl
def zgb (o k:Nat) (q:Option (Bool×Nat×List AV×Hp)):Option (AV×Hp):=
 match q with
 | some (ex,sz,cs,hp)=>bif Nat.ble (o+k*sz) cs.length then some (.vsl (ex&&Nat.blt 0 sz&&Nat.beq (o+k*sz) cs.length) k (slice o (k*sz) cs),hp) else none
 | none=>none
theorem zB0 (n id o k:Nat):zal (n+1) hp (.osl id o k)=zgb o k (zbT n hp id):=rfl
theorem zdq {sz k:Nat} {cs:List AV} (ex:Bool) (hl:cs.length=k*sz) (hs:0<sz):zgb 0 k (some (ex,sz,cs,hp))=some (.vsl ex k cs,hp):=by
 have e2:Nat.blt 0 sz=true:=Nat.ble_eq_true_of_le hs;simp [zgb,←hl,e2,slice,Nat.ble_eq_true_of_le (Nat.le_refl cs.length)]
def zIs (n id:Nat) (hp:Hp) (q:Option Obj):Option (Bool×Nat×List AV×Hp):=
 match q with
 | some (.cells rw pu ex sz cs)=>
  bif pu then some (ex,sz,cs,bif rw then zad hp id (.cells false true ex sz cs) else hp)
  else match zV n hp cs with
   | some (cs',hp')=>some (ex,sz,cs',zad hp' id (.cells false false ex sz cs))
   | none=>none
 | _=>none
theorem zAp (n id:Nat):zbT (n+1) hp id=zIs n id hp (zt hp id):=rfl
theorem zEt (n id:Nat) (ex:Bool) (sz:Nat) (cs:List AV):zIs n id hp (some (.cells true true ex sz cs))=some (ex,sz,cs,zad hp id (.cells false true ex sz cs)):=rfl
theorem zJy (n id:Nat) (ex:Bool) (sz:Nat) (cs:List AV):zIs n id hp (some (.cells false true ex sz cs))=some (ex,sz,cs,hp):=rfl
theorem zx (n:Nat) (cs:List AV) (h:zV n hp cs=some (cs,hp)):zal (n+1) hp (.agg cs)=some (.agg cs,hp):=by
 simp only [zal,h]
theorem zj2 {id n sz:Nat} {ex:Bool} {cs:List AV} (hg:zt hp id=some (.cells true true ex sz cs)) (hl:cs.length=n*sz) (hs:0<sz):zaR hp (.osl id 0 n)=some (.fsl ex sz n cs):=by
 have e2:Nat.blt 0 sz=true:=Nat.ble_eq_true_of_le hs;simp only [zaR,zgN,hg,Nat.zero_add,←hl,Nat.ble_eq_true_of_le (Nat.le_refl cs.length),cond_true,e2,Bool.and_true,slice,List.drop_zero,List.take_length]
 simp
theorem zle (b:Bool):zaR hp (.tup [.nils,.bool b])=some (.tup [.nils,.bool b]):=rfl
theorem zlo (k:IntKind) (b:Int):zaR hp (.tup [.nils,.int k b])=some (.tup [.nils,.int k b]):=rfl
theorem zlg (e:Bool) (n:Nat) (cs:List AV) (k:IntKind) (b:Int):zaR hp (.tup [.vsl e n cs,.int k b])=some (.tup [.vsl e n cs,.int k b]):=rfl
theorem zuW (s:St):zfq [] s=some s:=rfl
def fzC (t:Nat) (r:List Nat) (tm:Env) (ct base:Nat) (q:Option (AV×Hp)):Option St:=match q with | some (v,hp)=>zfq r ⟨(t,v)::tm,hp,ct,base⟩ | none=>none
theorem zp7 (t:Nat) (r:List Nat) (tm:Env) (hp:Hp) (ct base:Nat):zfq (t::r) ⟨tm,hp,ct,base⟩=fzC t r tm ct base (zal zcP hp (zc tm t)):=by
 simp only [zfq,fzC];cases zal zcP hp (zc tm t)<;>rfl
theorem zOL (t:Nat) (r:List Nat) (tm:Env) (ct base:Nat) (v:AV) (hp:Hp):fzC t r tm ct base (some (v,hp))=zfq r ⟨(t,v)::tm,hp,ct,base⟩:=rfl
end
attribute [go_sem] zle zlo zlg zub zpf zvj zpQ zuR zuh zuC zxg zuc zmx zxa zBh zy1 zCO zA6 zDv zLF zxj zlO
 zvw zpK zHb zMm zNq zRy zGN zKk zLy zO9 znk zDF zQn zBN zwc zuG zPr zNt zPm zOI zOx zPo zIr
 zuE zpr zpp znM znF zOX zIB zHM zFX zz7 zGz zB0 zdq zAt zsg zAp zEt zJy zuW zp7 zOL
 Bool.and_false Bool.false_and List.drop_zero eq_self
end VE
end
section
namespace VE
open Go (IntKind)
theorem zny:∀hp:Hp,za7 0 hp=[]
 | []=>rfl
 | (id,o)::r=>by
  have:Nat.blt id 0=false:=rfl
  simp only [za7,this,cond_false,zny r]
theorem zzT (f:Nat→Option Nat):∀hp:Hp,zea 0 f hp=[]
 | []=>rfl
 | (id,o)::r=>by
  have:Nat.blt id 0=false:=rfl
  simp only [zea,this,cond_false,zzT f r]
def pos (seen:List Nat):Nat→Option Nat:=fun id=>zgO id seen 0
def zFx (tm:Env) (hp:Hp) (seen:List Nat):St:=⟨zfD (pos seen) tm,zdt hp (pos seen) seen 0 [],seen.length,0⟩
def rch (hp:Hp):Nat→List Nat→List Nat→List Nat:=zfo hp 0
theorem za (live:List Nat) (tm:Env) (hp:Hp) (ct:Nat):zC live ⟨tm,hp,ct,0⟩=zFx (keep tm live) hp (rch hp 100000 (zcF (keep tm live)) []):=by
 have e:∀seen,zdy 0 seen=pos seen:=fun seen=>by
  funext id
  have:Nat.blt id 0=false:=rfl
  simp only [zdy,this,cond_false,pos]
 simp only [zC,zny,List.append_nil,e,zzT,zFx,rch,Nat.zero_add]
theorem zue:zcF []=[]:=rfl
theorem zpO (i:Nat) (v:AV) (r:Env):zcF ((i,v)::r)=zcG v++zcF r:=rfl
theorem zxC (k:IntKind) (n:Int):zcG (.int k n)=[]:=rfl
theorem zuS (b:Bool):zcG (.bool b)=[]:=rfl
theorem zy2 (s:List Nat):zcG (.str s)=[]:=rfl
theorem zuY:zcG .nils=[]:=rfl
theorem zxh (e:Bool) (n:Nat) (cs:List AV):zcG (.vsl e n cs)=[]:=rfl
theorem zvf (cs:List AV):zcG (.vptr cs)=[]:=rfl
theorem zp2:zcG .undef=[]:=rfl
theorem zzJ (id o:Nat):zcG (.ptr id o)=[id]:=rfl
theorem zyU (id o n:Nat):zcG (.osl id o n)=[id]:=rfl
theorem zDk (g:Nat) (a b:List AV):zcG (.fn (.f g) a b)=zcC a++zcC b:=rfl
theorem zLx (l:Nat) (a b:List AV):zcG (.fn (.y l) a b)=[l]:=rfl
theorem zwX (cs:List AV):zcG (.agg cs)=zcC cs:=rfl
theorem ztB:zcC []=[]:=rfl
theorem zpn (v:AV) (r:List AV):zcC (v::r)=zcG v++zcC r:=rfl
def zAH (hp:Hp) (n id:Nat) (work seen:List Nat) (q:Option Obj):List Nat:=match q with | some o=>rch hp n (zeh o++work) (seen++[id]) | none=>rch hp n work seen
def zCk (hp:Hp) (n id:Nat) (work seen:List Nat) (b:Bool):List Nat:=bif b then rch hp n work seen else zAH hp n id work seen (zt hp id)
theorem zA3 (hp:Hp) (n:Nat) (seen:List Nat):rch hp (n+1) [] seen=seen:=rfl
theorem zzF (hp:Hp) (n id:Nat) (work seen:List Nat):rch hp (n+1) (id::work) seen=zCk hp n id work seen (zgf id seen):=by
 have:Nat.blt id 0=false:=rfl
 simp only [rch,zfo,this,Bool.false_or,zCk,zAH]
 cases zgf id seen with
 | true=>rfl
 | false=>simp only [cond_false];cases zt hp id<;>rfl
theorem zIw (hp:Hp) (n id:Nat) (work seen:List Nat):zCk hp n id work seen true=rch hp n work seen:=rfl
theorem zGX (hp:Hp) (n id:Nat) (work seen:List Nat):zCk hp n id work seen false=zAH hp n id work seen (zt hp id):=rfl
theorem zKJ (hp:Hp) (n id:Nat) (work seen:List Nat) (o:Obj):zAH hp n id work seen (some o)=rch hp n (zeh o++work) (seen++[id]):=rfl
theorem zyK (i:Nat):zgf i []=false:=rfl
theorem zvT (i:Nat) (r:List Nat):zgf i (i::r)=true:=by simp only [zgf,Nat.beq_refl,cond_true]
theorem ztZ {i j:Nat} (r:List Nat) (h:j≠i):zgf i (j::r)=zgf i r:=by simp only [zgf,zaQ h,cond_false]
theorem zAW (rw ex:Bool) (sz:Nat) (cs:List AV):zeh (.cells rw true ex sz cs)=[]:=rfl
theorem zBu (rw ex:Bool) (sz:Nat) (cs:List AV):zeh (.cells rw false ex sz cs)=zcC cs:=rfl
theorem zxP (tm:Env) (ps:List Nat) (a b:VC) (st:Nat) (pe:Jump):zeh (.lp tm ps a b st pe)=zcF tm:=rfl
theorem zC1 (i:Nat) (r:List Nat) (k:Nat):zgO i (i::r) k=some k:=by simp only [zgO,Nat.beq_refl,cond_true]
theorem zwF {i j:Nat} (r:List Nat) (k:Nat) (h:j≠i):zgO i (j::r) k=zgO i r (k+1):=by simp only [zgO,zaQ h,cond_false]
def zEh (o:Nat) (q:Option Nat):AV:=match q with | some j=> .ptr j o | none=> .undef
def zEc (o n:Nat) (q:Option Nat):AV:=match q with | some j=> .osl j o n | none=> .undef
theorem zyq (s:List Nat):zfD (pos s) []=[]:=rfl
theorem ztG (s:List Nat) (i:Nat) (v:AV) (r:Env):zfD (pos s) ((i,v)::r)=(i,ren (pos s) v)::zfD (pos s) r:=rfl
theorem zAh (s:List Nat) (k:IntKind) (n:Int):ren (pos s) (.int k n)= .int k n:=rfl
theorem zxf (s:List Nat) (b:Bool):ren (pos s) (.bool b)= .bool b:=rfl
theorem zBR (s:List Nat) (t:List Nat):ren (pos s) (.str t)= .str t:=rfl
theorem zzw (s:List Nat):ren (pos s) .nils= .nils:=rfl
theorem zCZ (s:List Nat) (e:Bool) (n:Nat) (cs:List AV):ren (pos s) (.vsl e n cs)= .vsl e n cs:=rfl
theorem zzB (s:List Nat) (cs:List AV):ren (pos s) (.vptr cs)= .vptr cs:=rfl
theorem ztP (s:List Nat):ren (pos s) .undef= .undef:=rfl
theorem zAq (s:List Nat) (id o:Nat):ren (pos s) (.ptr id o)=zEh o (zgO id s 0):=rfl
theorem zBr (s:List Nat) (id o n:Nat):ren (pos s) (.osl id o n)=zEc o n (zgO id s 0):=rfl
theorem zMx (s:List Nat) (g:Nat) (a b:List AV):ren (pos s) (.fn (.f g) a b)= .fn (.f g) (zcZ (pos s) a) (zcZ (pos s) b):=rfl
theorem zDA (s:List Nat) (cs:List AV):ren (pos s) (.agg cs)= .agg (zcZ (pos s) cs):=rfl
theorem zv6 (s:List Nat):zcZ (pos s) []=[]:=rfl
theorem ztE (s:List Nat) (v:AV) (r:List AV):zcZ (pos s) (v::r)=ren (pos s) v::zcZ (pos s) r:=rfl
theorem zz9 (o j:Nat):zEh o (some j)= .ptr j o:=rfl
theorem zDB (o n j:Nat):zEc o n (some j)= .osl j o n:=rfl
def zJw (hp:Hp) (f:Nat→Option Nat) (r:List Nat) (k:Nat) (acc:Hp) (q:Option Obj):Hp:=match q with | some o=>zdt hp f r (k+1) ((k,zge f o)::acc) | none=>zdt hp f r (k+1) acc
theorem zvh (hp:Hp) (s:List Nat) (k:Nat) (acc:Hp):zdt hp (pos s) [] k acc=acc:=rfl
theorem zpN (hp:Hp) (s:List Nat) (id:Nat) (r:List Nat) (k:Nat) (acc:Hp):zdt hp (pos s) (id::r) k acc=zJw hp (pos s) r k acc (zt hp id):=by
 simp only [zdt,zJw];cases zt hp id<;>rfl
theorem zIA (hp:Hp) (s r:List Nat) (k:Nat) (acc:Hp) (o:Obj):zJw hp (pos s) r k acc (some o)=zdt hp (pos s) r (k+1) ((k,zge (pos s) o)::acc):=rfl
theorem zKW (f:Nat→Option Nat) (rw ex:Bool) (sz:Nat) (cs:List AV):zge f (.cells rw true ex sz cs)= .cells rw true ex sz cs:=rfl
theorem zKy (f:Nat→Option Nat) (rw ex:Bool) (sz:Nat) (cs:List AV):zge f (.cells rw false ex sz cs)= .cells rw false ex sz (zcZ f cs):=rfl
theorem zDu (f:Nat→Option Nat) (tm:Env) (ps:List Nat) (a b:VC) (st:Nat) (pe:Jump):zge f (.lp tm ps a b st pe)= .lp (zfD f tm) ps a b st pe:=rfl
theorem zz5 (tm:Env) (hp:Hp) (seen:List Nat):zFx tm hp seen=⟨zfD (pos seen) tm,zdt hp (pos seen) seen 0 [],seen.length,0⟩:=rfl
attribute [go_sem] zue zpO zxC zuS zy2 zuY zxh zvf zp2 zzJ zyU zDk zLx zwX ztB zpn zA3 zzF zIw zGX zKJ
 zyK zvT ztZ zAW zBu zxP zC1 zwF zyq ztG zAh zxf zBR zzw zCZ zzB ztP zAq zBr zMx zDA zv6 ztE zz9 zDB
 zvh zpN zIA zKW zKy zDu zz5 List.length_cons List.length_nil
end VE
end
section
namespace VE
open Go (IntKind)
section
variable {P:zU} {L:Lib}
theorem zE (k id o:Nat):zof k (.ptr id o)=some (.ptr id (o+k)):=rfl
theorem zau {α:Type} (a:α) (l:List α):List.drop 1 (a::l)=l:=rfl
theorem zOS {α:Type} (a b:α) (l:List α):List.drop 2 (a::b::l)=l:=rfl
theorem zEk {α:Type} (a b c:α) (l:List α):List.drop 3 (a::b::c::l)=l:=rfl
end
end VE
end
section
namespace VE
open Go (IntKind)
section
variable {P:zU} {L:Lib}
abbrev Nm (n:Int):AV:= .agg [zf n,.nils]
theorem zbA (hp:Hp) (ct id:Nat) (a:Int) (x y:AV):stC hp ct id 0 2 [.int .i64 a,.nils] (some (.cells true true true 2 [x,y]))=some (.tup [],zad hp id (.cells true true true 2 [.int .i64 a,.nils]),ct):=rfl
theorem zhs (hp:Hp):zeC .sl .nils .nils=some true:=rfl
theorem zam (b:Bool):zxV false (some b)=some (.bool b):=by cases b<;>rfl
theorem zpG (f:Run) (tm:Env) (hp:Hp) (ct:Nat) (x y:X):zaa P L f tm hp ct (.mn [x,y])=rd hp ct (min2 (zq tm x) (zq tm y)):=by
 simp only [zaa,rd,zG,zaG,ziS];cases min2 (zq tm x) (zq tm y)<;>rfl
theorem zib (f:Run) (tm:Env) (hp:Hp) (ct:Nat) (x y:X):zaa P L f tm hp ct (.mx [x,y])=rd hp ct (max2 (zq tm x) (zq tm y)):=by
 simp only [zaa,rd,zG,zaG,ziS];cases max2 (zq tm x) (zq tm y)<;>rfl
theorem zkG (k k':IntKind) (x y:Int):min2 (.int k x) (.int k' y)=some (.int k (if y<x then y else x)):=rfl
theorem zeE (k k':IntKind) (x y:Int):max2 (.int k x) (.int k' y)=some (.int k (if y>x then y else x)):=rfl
def sgn (n:Int):Int:=if n<0 then -1 else if n=0 then 0 else 1
theorem zwW (n:Int):(if (if n<1 then n else 1)> -1 then (if n<1 then n else 1) else -1)=sgn n:=by
 unfold sgn;by_cases h1:n<0
 ·rw [if_pos (show n<1 by omega),if_pos h1];split<;>omega
 ·by_cases h2:n=0
  ·subst h2;rfl
  ·rw [if_neg (show ¬n<1 by omega),if_neg h1,if_neg h2];rfl
theorem zQK (h:Has P L 117 zCT) (n:Int):zF P L 117 [zf n] (Nm n):=by
 unfold zF;rw [zd h];simp only [go_sem,reduceEqDiff,reduceAdd,reduceLeDiff,zCT,zo,Nat.zero_add,zbA];rfl
theorem zQP (h:Has P L 147 zlj) {n:Int} (hn: -9223372036854775808<n∧n<9223372036854775808):zF P L 147 [Nm n] (Nm (-n)):=by
 unfold zF;rw [zd h]
 simp only [go_sem,reduceEqDiff,reduceAdd,reduceLeDiff,zlj,zo,zbA,zhs,zam,zE,Nat.zero_add,zau,show ¬n= -9223372036854775808 by omega,zg (n:=0-n) (by omega) (by omega)];simp only [Int.zero_sub];rfl
theorem zKe (h:Has P L 146 zmS) (n:Int):zF P L 146 [Nm n] (zf (sgn n)):=by
 unfold zF;rw [zd h];simp only [go_sem,reduceEqDiff,reduceAdd,zmS,zo,zE,Nat.zero_add,zpG,zib,zkG,zeE,zwW]
theorem zfv (hp:Hp) (p q:Bool):zeC .b (.bool p) (.bool q)=some (p==q):=rfl
end
end VE
end
section
namespace VE
open Go (IntKind)
section
variable {P:zU} {L:Lib}
theorem zaI {n:Nat} {sp:List AV→Option AV} (h:L.pure n=some sp) {f:Run} (vals:List AV):zj P L f n vals=sp vals:=by simp only [zj,h]
abbrev U64 (n:Int):AV:= .int .u64 n
theorem zNd {n:Int} (h1:0≤n) (h2:n<18446744073709551616):IntKind.wrap .u64 n=n:=by
 simp only [IntKind.wrap,IntKind.signed,IntKind.bits]
 have:n%2^64=n:=Int.emod_eq_of_lt h1 (by omega)
 rw [show ((2:Int)^64)=18446744073709551616 from rfl] at this;simpa using this
theorem zvV (n:Int):zi3 (.toInt .u64) (zf n)=some (U64 (IntKind.wrap .u64 n)):=rfl
theorem zmE (n:Int):zi3 (.toInt .i64) (U64 n)=some (zf (IntKind.wrap .i64 n)):=rfl
theorem zkM (b:Bool):zxV true (some b)=some (.bool (!b)):=by cases b<;>rfl
theorem zI6 (a b c d:AV):zck 0 [a,b] [c,d]=[a,b]:=rfl
theorem z9 (a b:AV) (r:List AV):ld1 2 true (a::b::r)=some (.agg [a,b]):=rfl
theorem zb0 (a b c d:AV) (r:List AV):ld1 4 true (a::b::c::d::r)=some (.agg [a,b,c,d]):=rfl
theorem zO2 (h:Has P L 163 zm1) (h147:Has P L 147 zlj) {n:Int} (hn: -9223372036854775808<n∧n<9223372036854775808):zF P L 163 [Nm n] (Nm n.natAbs):=by
 have e1:=zQP h147 hn;unfold zF at e1 ⊢;rw [zd h];by_cases h0:n<0
 ·simp only [go_sem,reduceEqDiff,reduceAdd,zm1,zo,zbA,zE,Nat.zero_add,h0,z9,zx,e1];rw [show -n=(n.natAbs:Int) by omega];rfl
 ·simp only [go_sem,reduceEqDiff,reduceAdd,zm1,zo,zbA,zE,Nat.zero_add,h0,z9];rw [show ((n.natAbs:Nat):Int)=n by omega];rfl
theorem zl9 {a b:Int} (hb:0<b):(a.tmod b<0→a/b=a.tdiv b-1∧a%b=a.tmod b+b)∧(¬a.tmod b<0→a/b=a.tdiv b∧a%b=a.tmod b):=by
 have h1:=Int.mul_tdiv_add_tmod a b;have h2:a.tmod b<b:=Int.tmod_lt_of_pos a hb;have h3: -b<a.tmod b:=Int.lt_tmod_of_pos a hb;refine ⟨fun h=>(Int.ediv_emod_unique hb).2 ⟨?_,?_,?_⟩,fun h=>(Int.ediv_emod_unique hb).2 ⟨?_,?_,?_⟩⟩
 ·rw [Int.mul_sub,Int.mul_one];omega
 ·omega
 ·omega
 ·omega
 ·omega
 ·omega
theorem zN2 (h:Has P L 164 c164) {a b:Int} (ha: -4611686018427387904<a∧a<4611686018427387904) (hb:0<b∧b<4611686018427387904):zF P L 164 [Nm a,Nm b] (.tup [Nm (a/b),Nm (a%b)]):=by
 obtain ⟨f1,f2⟩:=zl9 (a:=a) hb.1;have hq: -4611686018427387904<a.tdiv b∧a.tdiv b<4611686018427387904:=by
  have:=Int.natAbs_tdiv_le_natAbs a b
  omega
 have hr: -4611686018427387904<a.tmod b∧a.tmod b<4611686018427387904:=by
  have:=Int.tmod_lt_of_pos a hb.1
  have:=Int.lt_tmod_of_pos a hb.1
  omega
 unfold zF;rw [zd h];by_cases h0:a.tmod b<0
 ·obtain ⟨g1,g2⟩:=f1 h0;rw [g1,g2]
  simp only [go_sem,reduceEqDiff,reduceAdd,reduceLeDiff,c164,zo,zbA,zhs,zam,zE,Nat.zero_add,zau,show ¬a= -9223372036854775808 by omega,zaC _ _ _ (show b≠0 by omega),zaO _ _ _ (show b≠0 by omega),h0,zg (n:=a.tdiv b) (by omega) (by omega),zg (n:=a.tdiv b-1) (by omega) (by omega),zg (n:=a.tmod b+b) (by omega) (by omega)];rfl
 ·obtain ⟨g1,g2⟩:=f2 h0;rw [g1,g2]
  simp only [go_sem,reduceEqDiff,reduceAdd,reduceLeDiff,c164,zo,zbA,zhs,zam,zE,Nat.zero_add,zau,show ¬a= -9223372036854775808 by omega,zaC _ _ _ (show b≠0 by omega),zaO _ _ _ (show b≠0 by omega),h0,zg (n:=a.tdiv b) (by omega) (by omega)];rfl
theorem zNb (h:Has P L 148 zu9) (h146:Has P L 146 zmS) (h164:Has P L 164 c164) {a b:Int} (ha: -4611686018427387904<a∧a<4611686018427387904) (hb:0<b∧b<4611686018427387904):zF P L 148 [Nm a,Nm b] (Nm (a/b)):=by
 have e1:=zKe h146 b;have e2:=zN2 h164 ha hb;have e3:sgn b=1:=by unfold sgn;rw [if_neg (by omega),if_neg (by omega)]
 rw [e3] at e1;unfold zF at e1 e2 ⊢;rw [zd h];simp only [go_sem,reduceEqDiff,reduceAdd,zu9,Int.reduceLT,decide_false,zo,zbA,Nat.zero_add,z9,zx,e1,e2,zbS];rfl
theorem zoq (a b:Nat) (hb:b≠0):Nat.gcd b (a%b)=Nat.gcd a b:=by
 rw [Nat.gcd_comm b,←Nat.gcd_rec,Nat.gcd_comm]
theorem zIv (h146:Has P L 146 zmS) (h164:Has P L 164 c164) (G:Nat):
  ∀k s,(∃x y:Nat,zC [2,3,4] s=⟨[(2,.ptr 0 0),(3,.ptr 1 0),(4,.ptr 2 0)],[(2,.cells true true true 2 [zf 0,.nils]),(1,.cells true true true 2 [zf y,.nils]),(0,.cells true true true 2 [zf x,.nils])],3,0⟩∧x<4611686018427387904∧y<4611686018427387904∧Nat.gcd x y=G∧y=k)→
   ∃ex s',D P L (.loop [2,3,4] ze4) s=some (ex,s')∧∃tm,s'=⟨tm,[(2,.cells true true true 2 [zf 0,.nils]),(1,.cells true true true 2 [zf 0,.nils]),(0,.cells true true true 2 [zf G,.nils])],3,0⟩∧ex= .exit 0∧zc tm 2= .ptr 0 0∧zc tm 4= .ptr 2 0:=by
 refine zT (I:=fun k s=>∃x y:Nat,s=⟨[(2,.ptr 0 0),(3,.ptr 1 0),(4,.ptr 2 0)],[(2,.cells true true true 2 [zf 0,.nils]),(1,.cells true true true 2 [zf y,.nils]),(0,.cells true true true 2 [zf x,.nils])],3,0⟩∧x<4611686018427387904∧y<4611686018427387904∧Nat.gcd x y=G∧y=k)
  (Q:=fun ex s'=>∃tm,s'=⟨tm,[(2,.cells true true true 2 [zf 0,.nils]),(1,.cells true true true 2 [zf 0,.nils]),(0,.cells true true true 2 [zf G,.nils])],3,0⟩∧ex= .exit 0∧zc tm 2= .ptr 0 0∧zc tm 4= .ptr 2 0) ?_
 rintro k s ⟨x,y,rfl,hx,hy,hG,rfl⟩;have e1:=zKe h146 (y:Int);by_cases hy0:y=0
 ·right
  subst hy0;have e3:sgn ((0:Nat):Int)=0:=rfl;rw [e3] at e1;unfold zF at e1;simp only [go_sem,reduceEqDiff,ze4,decide_true,Bool.not_true,z9,zx,e1];obtain rfl:x=G:=by rw [←hG,Nat.gcd_zero_right]
  exact ⟨_,_,rfl,by simp,_,rfl,rfl,by simp only [go_sem,reduceEqDiff],by simp only [go_sem,reduceEqDiff]⟩
 ·left
  have e3:sgn (y:Int)=1:=by unfold sgn;rw [if_neg (by omega),if_neg (by omega)]
  rw [e3] at e1;have e2:=zN2 h164 (a:=x) (b:=y) (by omega) (by omega);rw [show ((x:Int)%(y:Int))=((x%y:Nat):Int) from rfl] at e2;unfold zF at e1 e2;have hlt:=Nat.mod_lt x (show 0<y by omega);simp only [go_sem,reduceEqDiff,reduceAdd,ze4,Int.reduceEq,decide_false,Bool.not_false,zo,zbA,z9,zx,e1,e2,zbS];refine ⟨_,x%y,rfl,hlt,y,x%y,?_,hy,by omega,by rw [←hG];exact zoq x y hy0,rfl⟩
  simp only [go_sem,reduceEqDiff,reduceAdd,za,zI6,Bool.true_and]
theorem zQ4 (h:Has P L 130 zuA) (h163:Has P L 163 zm1) (h147:Has P L 147 zlj) (h146:Has P L 146 zmS) (h164:Has P L 164 c164) {a b:Int} (ha: -4611686018427387904<a∧a<4611686018427387904) (hb: -4611686018427387904<b∧b<4611686018427387904):zF P L 130 [Nm a,Nm b] (Nm (Int.gcd a b:Nat)):=by
 have e1:=zO2 h163 h147 (n:=a) (by omega);have e2:=zO2 h163 h147 (n:=b) (by omega);unfold zF at e1 e2 ⊢;rw [zd h];simp only [go_sem,reduceEqDiff,reduceAdd,zuA,zo,zbA,z9,zx,e1,e2,zD,Nat.zero_add];generalize hq:D P L (.loop [2,3,4] ze4) _=q;obtain ⟨ex,s,rfl,tm,rfl,rfl,h2,h4⟩:=zae hq (zIv (P:=P) (L:=L) h146 h164 (Int.gcd a b) b.natAbs) ⟨a.natAbs,b.natAbs,by simp only [go_sem,reduceEqDiff,reduceAdd,za],by omega,by omega,rfl,rfl⟩;simp only [go_sem,reduceEqDiff,reduceAdd,za,h2,h4,zbA,z9];rfl
abbrev Fq (n d:Int):AV:= .agg [zf n,.nils,zf d,.nils]
theorem zxD (hp:Hp) (ct id:Nat) (a b:Int) (x y z w:AV):stC hp ct id 0 4 [.int .i64 a,.nils,.int .i64 b,.nils] (some (.cells true true true 4 [x,y,z,w]))=some (.tup [],zad hp id (.cells true true true 4 [.int .i64 a,.nils,.int .i64 b,.nils]),ct):=rfl
theorem zwT (tm:Env) (x y z w:AV) (a:Int) (r:List (Nat×Nat×X)):zgm tm [x,y,z,w] 0 2 [.int .i64 a,.nils] r=fill tm [.int .i64 a,.nils,z,w] r:=rfl
theorem zzx (tm:Env) (x y z w:AV) (a:Int) (r:List (Nat×Nat×X)):zgm tm [x,y,z,w] 2 2 [.int .i64 a,.nils] r=fill tm [x,y,.int .i64 a,.nils] r:=rfl
theorem n101 (h:Has P L 101 c101) (h148:Has P L 148 zu9) (h130:Has P L 130 zuA) (h163:Has P L 163 zm1) (h147:Has P L 147 zlj) (h146:Has P L 146 zmS) (h164:Has P L 164 c164) {a b:Int} (ha: -4611686018427387904<a∧a<4611686018427387904) (hb:0<b∧b<4611686018427387904):
  zF P L 101 [Nm a,Nm b] (Fq (a/(Int.gcd a b:Nat)) (b/(Int.gcd a b:Nat))):=by
 have e1:=zKe h146 b;have e3:sgn b=1:=by unfold sgn;rw [if_neg (by omega),if_neg (by omega)]
 rw [e3] at e1;have e2:=zQ4 h130 h163 h147 h146 h164 ha (b:=b) (by omega);have hg:(0:Int)<(Int.gcd a b:Nat):=by
  have:=Int.gcd_pos_of_ne_zero_right a (show b≠0 by omega)
  omega
 have hg2:((Int.gcd a b:Nat):Int)<4611686018427387904:=by
  have:=Int.gcd_le_natAbs_right a (show b≠0 by omega)
  omega
 have e4:=zNb h148 h146 h164 ha (b:=(Int.gcd a b:Nat)) ⟨hg,hg2⟩;have e5:=zNb h148 h146 h164 (a:=b) (b:=(Int.gcd a b:Nat)) (by omega) ⟨hg,hg2⟩;unfold zF at e1 e2 e4 e5 ⊢;rw [zd h];by_cases hb1:b=1
 ·subst hb1;rw [Int.gcd_one];simp only [go_sem,reduceEqDiff,reduceAdd,c101,Int.reduceLT,decide_false,decide_true,zo,zxD,z9,zx,e1,zE,Nat.zero_add,zau,zhs,zam,zwT,zzx];rw [show a/((1:Nat):Int)=a from Int.ediv_one a];rfl
 ·simp only [go_sem,reduceEqDiff,reduceAdd,c101,Int.reduceLT,decide_false,zo,zbA,zxD,z9,zx,e1,zE,Nat.zero_add,zau,zhs,zam,hb1,e2,e4,e5,zD,zwT,zzx];rfl
end
end VE
end
section
namespace VE
def zbr (a b:Int):Int:=a/(Int.gcd a b:Nat)
def zbt (a b:Int):Int:=b/(Int.gcd a b:Nat)
theorem zhl {a b:Int} (hb:0<b):(0:Int)<(Int.gcd a b:Nat):=by
 have:=Int.gcd_pos_of_ne_zero_right a (show b≠0 by omega)
 omega
theorem zIV (a b:Int):a=(Int.gcd a b:Nat)*zbr a b:=(Int.mul_ediv_cancel' (Int.gcd_dvd_left a b)).symm
theorem zFa (a b:Int):b=(Int.gcd a b:Nat)*zbt a b:=(Int.mul_ediv_cancel' (Int.gcd_dvd_right a b)).symm
theorem zfB {a b:Int} (hb:0<b):0<zbt a b:=by
 have h1:=zhl (a:=a) hb;have h2:=zFa a b;rcases Int.lt_trichotomy (zbt a b) 0 with h | h | h
 ·have:=Int.mul_neg_of_pos_of_neg h1 h;omega
 ·rw [h,Int.mul_zero] at h2;omega
 ·exact h
theorem zoQ (a b:Int):(zbr a b).natAbs≤a.natAbs:=by
 unfold zbr;rw [Int.natAbs_ediv_of_dvd (Int.gcd_dvd_left a b)];exact Nat.div_le_self _ _
theorem zoe (a b:Int):(zbt a b).natAbs≤b.natAbs:=by
 unfold zbt;rw [Int.natAbs_ediv_of_dvd (Int.gcd_dvd_right a b)];exact Nat.div_le_self _ _
def zi5 (a b:Int):List Nat:=if zbt a b=1 then zW (zbr a b) else zW (zbr a b)++[47]++zW (zbt a b)
end VE
end
