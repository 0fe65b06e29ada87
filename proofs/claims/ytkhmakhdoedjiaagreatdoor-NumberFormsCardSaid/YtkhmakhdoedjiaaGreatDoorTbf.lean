import Derived.Test.YtkhmakhdoedjiaaGreatDoorTbe
import Derived.Test.YtkhmakhdoedjiaaGreatDoorTbd
import Derived.Test.YtkhmakhdoedjiaaGreatDoorTao
set_option linter.all false
set_option maxRecDepth 100000
open Nat (reduceAdd reduceEqDiff reduceLeDiff)
section
namespace VE
open Go (IntKind)
section
variable {P:zN} {L:Lib} {f:Run} {tm:Env} {hp:Hp} {ct:Nat}
theorem ztw (k:IntKind) (n:Int):cellsOf (.int k n)=[.int k n]:=(rfl)
theorem zph (b:Bool):cellsOf (.bool b)=[.bool b]:=(rfl)
theorem ztD (s:List Nat):cellsOf (.str s)=[.str s]:=(rfl)
theorem zoU:cellsOf .nils=[.nils]:=(rfl)
theorem ztR (e:Bool) (n:Nat) (cs:List AV):cellsOf (.vsl e n cs)=[.vsl e n cs]:=(rfl)
theorem zto (id o n:Nat):cellsOf (.osl id o n)=[.osl id o n]:=(rfl)
theorem zvk (id o:Nat):cellsOf (.ptr id o)=[.ptr id o]:=(rfl)
theorem zyO (g:Fr) (a b:List AV):cellsOf (.fn g a b)=[.fn g a b]:=(rfl)
theorem ztI (cs:List AV):cellsOf (.agg cs)=cs:=(rfl)
theorem zmJ (k:IntKind) (n:Int):z9 (.int k n)=true:=(rfl)
theorem zxh (b:Bool):z9 (.bool b)=true:=(rfl)
theorem zBm (s:List Nat):z9 (.str s)=true:=(rfl)
theorem zw8:z9 .nils=true:=(rfl)
theorem zBd (e:Bool) (n:Nat) (cs:List AV):z9 (.vsl e n cs)=true:=(rfl)
theorem zAI (id o n:Nat):z9 (.osl id o n)=true:=(rfl)
theorem zCR (id o:Nat):z9 (.ptr id o)=true:=(rfl)
theorem zES (g:Fr) (a b:List AV):z9 (.fn g a b)=true:=(rfl)
theorem zxk:zH []=true:=(rfl)
theorem zl4 (v:AV) (r:List AV):zH (v::r)=(z9 v&&zH r):=(rfl)
theorem zu1:zn []=true:=(rfl)
theorem zpA (v:AV) (r:List AV):zn (v::r)=(zx v&&zn r):=(rfl)
theorem zFm (id o:Nat):zx (.ptr id o)=false:=(rfl)
theorem zJp (id o n:Nat):zx (.osl id o n)=false:=(rfl)
theorem zMN (g:Nat) (a b:List AV):zx (.fn (.f g) a b)=(zn a&&zn b):=(rfl)
theorem zQg (l:Nat) (a b:List AV):zx (.fn (.y l) a b)=false:=(rfl)
theorem zFq (cs:List AV):zx (.agg cs)=zn cs:=(rfl)
theorem zLp (cs:List AV):zx (.tup cs)=zn cs:=(rfl)
def zoc (ct sz:Nat) (cs:List AV):Option (AV×Obj):=bif Nat.beq cs.length sz&&zH cs then some (.ptr ct 0,.cells true (zn cs) true sz cs) else none
theorem zMh (sz:Nat) (x:X):z5 tm hp ct (.box sz x)=zoc ct sz (cellsOf (zp tm x)):=rfl
theorem zO0 {v:AV} (h:z9 v=true):zoc ct 1 [v]=some (.ptr ct 0,.cells true (zx v&&true) true 1 [v]):=by
 simp [zoc,zH,zn,h]
theorem zu {cs:List AV} {n:Nat} (hn:cs.length=n) (h:zH cs=true):zoc ct n cs=some (.ptr ct 0,.cells true (zn cs) true n cs):=by
 subst hn;simp [zoc,h]
def stC (hp:Hp) (ct id o sz:Nat) (new:List AV) (q:Option Obj):Res:=
 match q with
 | some (.cells true pu ex z cs)=>bif Nat.beq new.length sz&&Nat.ble (o+sz) cs.length&&zH new then some (.tup [],z7 hp id (.cells true (pu&&zn new) ex z (zb6 o new cs)),ct) else none
 | _=>none
def stV (hp:Hp) (ct sz:Nat) (p:AV) (new:List AV):Res:=match p with | .ptr id o=>stC hp ct id o sz new (zq hp id) | _=>none
theorem zoB (sz:Nat) (x v:X):zV tm hp ct (.st sz x v)=stV hp ct sz (zp tm x) (cellsOf (zp tm v)):=rfl
theorem zDb (sz id o:Nat) (new:List AV):stV hp ct sz (.ptr id o) new=stC hp ct id o sz new (zq hp id):=rfl
theorem zQO {v u:AV} {id z:Nat} {pu ex:Bool} (h:z9 v=true):stC hp ct id 0 1 [v] (some (.cells true pu ex z [u]))=some (.tup [],z7 hp id (.cells true (pu&&(zx v&&true)) ex z [v]),ct):=by
 simp [stC,zH,zn,h,zb6];rfl
theorem zoo {new cs:List AV} {id o sz z:Nat} {pu ex:Bool} (h1:new.length=sz) (h2:o+sz≤cs.length) (h:zH new=true):
  stC hp ct id o sz new (some (.cells true pu ex z cs))=some (.tup [],z7 hp id (.cells true (pu&&zn new) ex z (zb6 o new cs)),ct):=by
 subst h1;simp [stC,h,Nat.ble_eq_true_of_le h2]
def zsp (ct n sz:Nat) (q:Option (List AV)):Option (AV×Obj):=match q with | some cs=>bif Nat.beq cs.length (n*sz) then some (.osl ct 0 n,.cells true (zn cs) true sz cs) else none | none=>none
theorem zBg (n sz:Nat) (z:List AV) (ps:List (Nat×Nat×X)):z5 tm hp ct (.mksl n sz z ps)=zsp ct n sz (fill tm z ps):=by
 simp only [z5,zsp];cases fill tm z ps<;>rfl
theorem zCt {n sz:Nat} {cs:List AV} (h:cs.length=n*sz):zsp ct n sz (some cs)=some (.osl ct 0 n,.cells true (zn cs) true sz cs):=by
 simp [zsp,h]
def zgd (tm:Env) (cs:List AV) (o sz:Nat) (new:List AV) (r:List (Nat×Nat×X)):Option (List AV):=
 bif Nat.beq new.length sz&&Nat.ble (o+sz) cs.length&&zH new then fill tm (zb6 o new cs) r else none
theorem zw6 (cs:List AV):fill tm cs []=some cs:=rfl
theorem zvx (cs:List AV) (o sz:Nat) (x:X) (r:List (Nat×Nat×X)):fill tm cs ((o,sz,x)::r)=zgd tm cs o sz (cellsOf (zp tm x)) r:=rfl
theorem zs6 {cs:List AV} {o:Nat} {v:AV} {r:List (Nat×Nat×X)} (h1:o+1≤cs.length) (h2:z9 v=true):zgd tm cs o 1 [v] r=fill tm (zb6 o [v] cs) r:=by
 simp [zgd,zH,h2,Nat.ble_eq_true_of_le h1]
theorem zqe {cs new:List AV} {o sz:Nat} {r:List (Nat×Nat×X)} (h0:new.length=sz) (h1:o+sz≤cs.length) (h2:zH new=true):zgd tm cs o sz new r=fill tm (zb6 o new cs) r:=by
 subst h0;simp [zgd,h2,Nat.ble_eq_true_of_le h1]
theorem zOW (v u:AV) (r:List AV):zb6 0 [v] (u::r)=v::r:=rfl
theorem zMz (v a u:AV) (r:List AV):zb6 1 [v] (a::u::r)=a::v::r:=rfl
theorem zNz (v a b u:AV) (r:List AV):zb6 2 [v] (a::b::u::r)=a::b::v::r:=rfl
theorem zO4 (v a b c u:AV) (r:List AV):zb6 3 [v] (a::b::c::u::r)=a::b::c::v::r:=rfl
theorem zND (v a b c d u:AV) (r:List AV):zb6 4 [v] (a::b::c::d::u::r)=a::b::c::d::v::r:=rfl
theorem zOb (v a b c d e u:AV) (r:List AV):zb6 5 [v] (a::b::c::d::e::u::r)=a::b::c::d::e::v::r:=rfl
def znZ (ct sz by':Nat) (zero:List AV) (l c:Option Nat):Option (AV×Obj):=
 match l,c with
 | some l,some c=>bif Nat.ble l c&&(Nat.ble c zb1&&(Nat.ble (c*by') zb1&&(Nat.beq zero.length sz&&zH zero))) then some (.osl ct 0 l,.cells true (zn zero) (Nat.beq l c) sz (List.replicate l zero).flatten) else none
 | _,_=>none
theorem zD1 (sz by':Nat) (z:List AV) (l c:X):z5 tm hp ct (.mks sz by' z l c)=znZ ct sz by' z (zaE (zp tm l)) (zaE (zp tm c)):=by
 simp only [z5,znZ];cases zaE (zp tm l)<;>cases zaE (zp tm c)<;>rfl
theorem zm0 {sz by' l:Nat} {z:List AV} (h1:l≤1099511627776) (h2:l*by'≤1099511627776) (h3:z.length=sz) (h4:zH z=true):
  znZ ct sz by' z (some l) (some l)=some (.osl ct 0 l,.cells true (zn z) true sz (List.replicate l z).flatten):=by
 subst h3;simp [znZ,h4,Nat.ble_eq_true_of_le (show l≤zb1 from h1),Nat.ble_eq_true_of_le (show l*by'≤zb1 from h2),Nat.ble_eq_true_of_le (Nat.le_refl l)]
def zo6 (hp:Hp) (ct sz by':Nat) (s:AV) (src:Option (Nat×List AV)):Res:=
 match src with
 | none=>none
 | some (m,new)=>
  match s with
  | .nils=>
   bif Nat.beq m 0 then some (.nils,hp,ct)
   else bif Nat.ble m zb1&&(Nat.ble (m*by') zb1&&Nat.blt 0 sz) then some (.osl ct 0 m,(ct,.cells true (zn new) false sz new)::hp,ct+1) else none
  | .vsl true n cs=>
   bif Nat.beq m 0 then some (.vsl true n cs,hp,ct)
   else bif Nat.ble (n+m) zb1&&(Nat.ble ((n+m)*by') zb1&&(Nat.beq cs.length (n*sz)&&Nat.blt 0 sz)) then some (.osl ct 0 (n+m),(ct,.cells true (zn cs&&zn new) false sz (cs++new))::hp,ct+1) else none
  | .osl id o n=>
   match zq hp id with
   | some (.cells true pu _ z cs)=>
    bif Nat.beq z sz&&(Nat.ble (n+m) zb1&&(Nat.ble ((n+m)*by') zb1&&(Nat.ble (o+n*sz) cs.length&&(Nat.blt 0 sz&&zH new)))) then
     some (.osl ct 0 (n+m),(ct,.cells true (pu&&zn new) false sz (slice o (n*sz) cs++new))::hdel hp id,ct+1)
    else none
   | _=>none
  | _=>none
theorem zux (sz by':Nat) (s x:X):zV tm hp ct (.app sz by' s x)=zo6 hp ct sz by' (zp tm s) (zeU hp sz (zp tm x)):=by
 simp only [zV,zo6]
 cases zeU hp sz (zp tm x) with
 | none=>rfl
 | some q=>obtain ⟨m,new⟩:=q;cases zp tm s<;>rfl
theorem zpf (sz id o n:Nat):zeU hp sz (.osl id o n)=zcC hp sz (.osl id o n):=rfl
theorem zoJ (sz:Nat) (e:Bool) (n:Nat) (cs:List AV):zeU hp sz (.vsl e n cs)=zcC hp sz (.vsl e n cs):=rfl
theorem zoG (sz:Nat):zeU hp sz .nils=some (0,[]):=rfl
def atC (o n sz:Nat) (q:Option Obj):Option (Nat×List AV):=match q with | some (.cells _ _ _ _ cs)=>bif Nat.ble (o+n*sz) cs.length then some (n,slice o (n*sz) cs) else none | _=>none
theorem zn9 (sz id o n:Nat):zcC hp sz (.osl id o n)=atC o n sz (zq hp id):=rfl
theorem zMD (rw pu ex:Bool) (z:Nat) (v:AV):atC 0 1 1 (some (.cells rw pu ex z [v]))=some (1,[v]):=rfl
theorem zbX {sz by':Nat} {new:List AV} {m:Nat} (hm:0<m) (h1:m≤1099511627776) (h2:m*by'≤1099511627776) (hs:0<sz):
  zo6 hp ct sz by' .nils (some (m,new))=some (.osl ct 0 m,(ct,.cells true (zn new) false sz new)::hp,ct+1):=by
 have e1:Nat.beq m 0=false:=zaH (by omega);have e2:Nat.blt 0 sz=true:=Nat.ble_eq_true_of_le hs;simp [zo6,e1,e2,Nat.ble_eq_true_of_le (show m≤zb1 from h1),Nat.ble_eq_true_of_le (show m*by'≤zb1 from h2)]
theorem zcc {sz by' id n m:Nat} {pu ex:Bool} {cs new:List AV} (hg:zq hp id=some (.cells true pu ex sz cs)) (hl:cs.length=n*sz) (h1:n+m≤1099511627776) (h2:(n+m)*by'≤1099511627776) (hs:0<sz) (ho:zH new=true):
  zo6 hp ct sz by' (.osl id 0 n) (some (m,new))=some (.osl ct 0 (n+m),(ct,.cells true (pu&&zn new) false sz (cs++new))::hdel hp id,ct+1):=by
 have e2:Nat.blt 0 sz=true:=Nat.ble_eq_true_of_le hs;simp only [zo6,hg];simp [e2,ho,Nat.ble_eq_true_of_le (show n+m≤zb1 from h1),Nat.ble_eq_true_of_le (show (n+m)*by'≤zb1 from h2),←hl,slice,Nat.ble_eq_true_of_le (Nat.le_refl cs.length)]
def zO9 (n:Nat) (g:Nat) (cap:List AV) (q:Option (List AV×Hp)):Option (AV×Hp):=match q with | some (first,hp)=>(match zT n hp cap with | some (cap',hp2)=>some (.fn (.f g) first cap',hp2) | none=>none) | none=>none
def zMC (g:Nat) (first:List AV) (q:Option (List AV×Hp)):Option (AV×Hp):=match q with | some (cap,hp)=>some (.fn (.f g) first cap,hp) | none=>none
theorem zMe (n g:Nat) (first cap:List AV):zaf (n+1) hp (.fn (.f g) first cap)=zO9 n g cap (zT n hp first):=rfl
theorem zIU (n g:Nat) (first cap:List AV):zO9 n g cap (some (first,hp))=zMC g first (zT n hp cap):=rfl
theorem zI2 (g:Nat) (first cap:List AV):zMC g first (some (cap,hp))=some (.fn (.f g) first cap,hp):=rfl
def zOP (o:Nat) (q:Option (Bool×Nat×List AV×Hp)):Option (AV×Hp):=match q with | some (_,_,cs,hp)=>some (.vptr (cs.drop o),hp) | none=>none
theorem zCB (n id o:Nat):zaf (n+1) hp (.ptr id o)=zOP o (zbD n hp id):=rfl
theorem zFX (o:Nat) (ex:Bool) (sz:Nat) (cs:List AV):zOP o (some (ex,sz,cs,hp))=some (.vptr (cs.drop o),hp):=rfl
def zgw (o k:Nat) (q:Option (Bool×Nat×List AV×Hp)):Option (AV×Hp):=
 match q with
 | some (ex,sz,cs,hp)=>bif Nat.ble (o+k*sz) cs.length then some (.vsl (ex&&Nat.blt 0 sz&&Nat.beq (o+k*sz) cs.length) k (slice o (k*sz) cs),hp) else none
 | none=>none
theorem zC4 (n id o k:Nat):zaf (n+1) hp (.osl id o k)=zgw o k (zbD n hp id):=rfl
theorem zdY {sz k:Nat} {cs:List AV} (ex:Bool) (hl:cs.length=k*sz) (hs:0<sz):zgw 0 k (some (ex,sz,cs,hp))=some (.vsl ex k cs,hp):=by
 have e2:Nat.blt 0 sz=true:=Nat.ble_eq_true_of_le hs;simp [zgw,←hl,e2,slice,Nat.ble_eq_true_of_le (Nat.le_refl cs.length)]
def zLY (n id:Nat) (hp:Hp) (q:Option Obj):Option (Bool×Nat×List AV×Hp):=
 match q with
 | some (.cells rw pu ex sz cs)=>
  bif pu then some (ex,sz,cs,bif rw then z7 hp id (.cells false true ex sz cs) else hp)
  else match zT n hp cs with
   | some (cs',hp')=>some (ex,sz,cs',z7 hp' id (.cells false false ex sz cs))
   | none=>none
 | _=>none
theorem zAN (n id:Nat):zbD (n+1) hp id=zLY n id hp (zq hp id):=rfl
theorem zGa (n id:Nat) (ex:Bool) (sz:Nat) (cs:List AV):zLY n id hp (some (.cells true true ex sz cs))=some (ex,sz,cs,z7 hp id (.cells false true ex sz cs)):=rfl
theorem zHW (n id:Nat) (ex:Bool) (sz:Nat) (cs:List AV):zLY n id hp (some (.cells false true ex sz cs))=some (ex,sz,cs,hp):=rfl
theorem zG (n:Nat) (cs:List AV) (h:zT n hp cs=some (cs,hp)):zaf (n+1) hp (.agg cs)=some (.agg cs,hp):=by
 simp only [zaf,h]
theorem zjR {id n sz:Nat} {ex:Bool} {cs:List AV} (hg:zq hp id=some (.cells true true ex sz cs)) (hl:cs.length=n*sz) (hs:0<sz):zaL hp (.osl id 0 n)=some (.fsl ex sz n cs):=by
 have e2:Nat.blt 0 sz=true:=Nat.ble_eq_true_of_le hs;simp only [zaL,zgF,hg,Nat.zero_add,←hl,Nat.ble_eq_true_of_le (Nat.le_refl cs.length),cond_true,e2,Bool.and_true,slice,List.drop_zero,List.take_length]
 simp
theorem zlj (b:Bool):zaL hp (.tup [.nils,.bool b])=some (.tup [.nils,.bool b]):=rfl
theorem zle (k:IntKind) (b:Int):zaL hp (.tup [.nils,.int k b])=some (.tup [.nils,.int k b]):=rfl
theorem zlh (e:Bool) (n:Nat) (cs:List AV) (k:IntKind) (b:Int):zaL hp (.tup [.vsl e n cs,.int k b])=some (.tup [.vsl e n cs,.int k b]):=rfl
theorem zug (s:St):zfq [] s=some s:=rfl
def fzC (t:Nat) (r:List Nat) (tm:Env) (ct base:Nat) (q:Option (AV×Hp)):Option St:=match q with | some (v,hp)=>zfq r ⟨(t,v)::tm,hp,ct,base⟩ | none=>none
theorem zo5 (t:Nat) (r:List Nat) (tm:Env) (hp:Hp) (ct base:Nat):zfq (t::r) ⟨tm,hp,ct,base⟩=fzC t r tm ct base (zaf zcJ hp (zc tm t)):=by
 simp only [zfq,fzC];cases zaf zcJ hp (zc tm t)<;>rfl
theorem zOk (t:Nat) (r:List Nat) (tm:Env) (ct base:Nat) (v:AV) (hp:Hp):fzC t r tm ct base (some (v,hp))=zfq r ⟨(t,v)::tm,hp,ct,base⟩:=rfl
end
attribute [go_sem] zlj zle zlh ztw zph ztD zoU ztR zto zvk zyO ztI zmJ zxh zBm zw8 zBd zAI zCR zES zxk zl4
 zu1 zpA zFm zJp zMN zQg zFq zLp zMh zO0 zoB zDb zQO zBg zw6 zvx zOW zMz zNz zO4 zND zOb zD1
 zux zpf zoJ zoG zn9 zMD zMe zIU zI2 zCB zFX zC4 zdY zCt zs6 zAN zGa zHW zug zo5 zOk
 Bool.and_false Bool.false_and List.drop_zero eq_self
end VE
end
section
namespace VE
open Go (IntKind)
theorem znm:∀hp:Hp,zaX 0 hp=[]
 | []=>rfl
 | (id,o)::r=>by
  have:Nat.blt id 0=false:=rfl
  simp only [zaX,this,cond_false,znm r]
theorem zyA (f:Nat→Option Nat):∀hp:Hp,zdV 0 f hp=[]
 | []=>rfl
 | (id,o)::r=>by
  have:Nat.blt id 0=false:=rfl
  simp only [zdV,this,cond_false,zyA f r]
def pos (seen:List Nat):Nat→Option Nat:=fun id=>zgv id seen 0
def zK2 (tm:Env) (hp:Hp) (seen:List Nat):St:=⟨zfu (pos seen) tm,zdq hp (pos seen) seen 0 [],seen.length,0⟩
def rch (hp:Hp):Nat→List Nat→List Nat→List Nat:=zfn hp 0
theorem za (live:List Nat) (tm:Env) (hp:Hp) (ct:Nat):zA live ⟨tm,hp,ct,0⟩=zK2 (keep tm live) hp (rch hp 100000 (zcp (keep tm live)) []):=by
 have e:∀seen,zdo 0 seen=pos seen:=fun seen=>by
  funext id
  have:Nat.blt id 0=false:=rfl
  simp only [zdo,this,cond_false,pos]
 simp only [zA,znm,List.append_nil,e,zyA,zK2,rch,Nat.zero_add]
theorem zuS:zcp []=[]:=rfl
theorem zpu (i:Nat) (v:AV) (r:Env):zcp ((i,v)::r)=zcu v++zcp r:=rfl
theorem zxg (k:IntKind) (n:Int):zcu (.int k n)=[]:=rfl
theorem zvn (b:Bool):zcu (.bool b)=[]:=rfl
theorem zwC (s:List Nat):zcu (.str s)=[]:=rfl
theorem zuB:zcu .nils=[]:=rfl
theorem zwe (e:Bool) (n:Nat) (cs:List AV):zcu (.vsl e n cs)=[]:=rfl
theorem zud (cs:List AV):zcu (.vptr cs)=[]:=rfl
theorem zoN:zcu .undef=[]:=rfl
theorem zxe (id o:Nat):zcu (.ptr id o)=[id]:=rfl
theorem zyE (id o n:Nat):zcu (.osl id o n)=[id]:=rfl
theorem zC3 (g:Nat) (a b:List AV):zcu (.fn (.f g) a b)=zcs a++zcs b:=rfl
theorem zGn (l:Nat) (a b:List AV):zcu (.fn (.y l) a b)=[l]:=rfl
theorem zzo (cs:List AV):zcu (.agg cs)=zcs cs:=rfl
theorem zva:zcs []=[]:=rfl
theorem zpQ (v:AV) (r:List AV):zcs (v::r)=zcu v++zcs r:=rfl
def zCJ (hp:Hp) (n id:Nat) (work seen:List Nat) (q:Option Obj):List Nat:=match q with | some o=>rch hp n (zed o++work) (seen++[id]) | none=>rch hp n work seen
def zCf (hp:Hp) (n id:Nat) (work seen:List Nat) (b:Bool):List Nat:=bif b then rch hp n work seen else zCJ hp n id work seen (zq hp id)
theorem zB0 (hp:Hp) (n:Nat) (seen:List Nat):rch hp (n+1) [] seen=seen:=rfl
theorem zy1 (hp:Hp) (n id:Nat) (work seen:List Nat):rch hp (n+1) (id::work) seen=zCf hp n id work seen (zf9 id seen):=by
 have:Nat.blt id 0=false:=rfl
 simp only [rch,zfn,this,Bool.false_or,zCf,zCJ]
 cases zf9 id seen with
 | true=>rfl
 | false=>simp only [cond_false];cases zq hp id<;>rfl
theorem zKT (hp:Hp) (n id:Nat) (work seen:List Nat):zCf hp n id work seen true=rch hp n work seen:=rfl
theorem zJ8 (hp:Hp) (n id:Nat) (work seen:List Nat):zCf hp n id work seen false=zCJ hp n id work seen (zq hp id):=rfl
theorem zHk (hp:Hp) (n id:Nat) (work seen:List Nat) (o:Obj):zCJ hp n id work seen (some o)=rch hp n (zed o++work) (seen++[id]):=rfl
theorem zxy (i:Nat):zf9 i []=false:=rfl
theorem zxl (i:Nat) (r:List Nat):zf9 i (i::r)=true:=by simp only [zf9,Nat.beq_refl,cond_true]
theorem zvp {i j:Nat} (r:List Nat) (h:j≠i):zf9 i (j::r)=zf9 i r:=by simp only [zf9,zaH h,cond_false]
theorem zAk (rw ex:Bool) (sz:Nat) (cs:List AV):zed (.cells rw true ex sz cs)=[]:=rfl
theorem zAR (rw ex:Bool) (sz:Nat) (cs:List AV):zed (.cells rw false ex sz cs)=zcs cs:=rfl
theorem zyY (tm:Env) (ps:List Nat) (a b:VC) (st:Nat) (pe:Jump):zed (.lp tm ps a b st pe)=zcp tm:=rfl
theorem zB9 (i:Nat) (r:List Nat) (k:Nat):zgv i (i::r) k=some k:=by simp only [zgv,Nat.beq_refl,cond_true]
theorem zwK {i j:Nat} (r:List Nat) (k:Nat) (h:j≠i):zgv i (j::r) k=zgv i r (k+1):=by simp only [zgv,zaH h,cond_false]
def zDl (o:Nat) (q:Option Nat):AV:=match q with | some j=> .ptr j o | none=> .undef
def zDB (o n:Nat) (q:Option Nat):AV:=match q with | some j=> .osl j o n | none=> .undef
theorem zvN (s:List Nat):zfu (pos s) []=[]:=rfl
theorem zvt (s:List Nat) (i:Nat) (v:AV) (r:Env):zfu (pos s) ((i,v)::r)=(i,ren (pos s) v)::zfu (pos s) r:=rfl
theorem zC7 (s:List Nat) (k:IntKind) (n:Int):ren (pos s) (.int k n)= .int k n:=rfl
theorem zws (s:List Nat) (b:Bool):ren (pos s) (.bool b)= .bool b:=rfl
theorem zCL (s:List Nat) (t:List Nat):ren (pos s) (.str t)= .str t:=rfl
theorem zyj (s:List Nat):ren (pos s) .nils= .nils:=rfl
theorem zAL (s:List Nat) (e:Bool) (n:Nat) (cs:List AV):ren (pos s) (.vsl e n cs)= .vsl e n cs:=rfl
theorem zvV (s:List Nat) (cs:List AV):ren (pos s) (.vptr cs)= .vptr cs:=rfl
theorem zuA (s:List Nat):ren (pos s) .undef= .undef:=rfl
theorem zCD (s:List Nat) (id o:Nat):ren (pos s) (.ptr id o)=zDl o (zgv id s 0):=rfl
theorem zBD (s:List Nat) (id o n:Nat):ren (pos s) (.osl id o n)=zDB o n (zgv id s 0):=rfl
theorem zKi (s:List Nat) (g:Nat) (a b:List AV):ren (pos s) (.fn (.f g) a b)= .fn (.f g) (zcN (pos s) a) (zcN (pos s) b):=rfl
theorem zAK (s:List Nat) (cs:List AV):ren (pos s) (.agg cs)= .agg (zcN (pos s) cs):=rfl
theorem zvS (s:List Nat):zcN (pos s) []=[]:=rfl
theorem zu4 (s:List Nat) (v:AV) (r:List AV):zcN (pos s) (v::r)=ren (pos s) v::zcN (pos s) r:=rfl
theorem zAF (o j:Nat):zDl o (some j)= .ptr j o:=rfl
theorem zCO (o n j:Nat):zDB o n (some j)= .osl j o n:=rfl
def zLc (hp:Hp) (f:Nat→Option Nat) (r:List Nat) (k:Nat) (acc:Hp) (q:Option Obj):Hp:=match q with | some o=>zdq hp f r (k+1) ((k,zga f o)::acc) | none=>zdq hp f r (k+1) acc
theorem zt3 (hp:Hp) (s:List Nat) (k:Nat) (acc:Hp):zdq hp (pos s) [] k acc=acc:=rfl
theorem zpx (hp:Hp) (s:List Nat) (id:Nat) (r:List Nat) (k:Nat) (acc:Hp):zdq hp (pos s) (id::r) k acc=zLc hp (pos s) r k acc (zq hp id):=by
 simp only [zdq,zLc];cases zq hp id<;>rfl
theorem zEJ (hp:Hp) (s r:List Nat) (k:Nat) (acc:Hp) (o:Obj):zLc hp (pos s) r k acc (some o)=zdq hp (pos s) r (k+1) ((k,zga (pos s) o)::acc):=rfl
theorem zGD (f:Nat→Option Nat) (rw ex:Bool) (sz:Nat) (cs:List AV):zga f (.cells rw true ex sz cs)= .cells rw true ex sz cs:=rfl
theorem zEz (f:Nat→Option Nat) (rw ex:Bool) (sz:Nat) (cs:List AV):zga f (.cells rw false ex sz cs)= .cells rw false ex sz (zcN f cs):=rfl
theorem zCx (f:Nat→Option Nat) (tm:Env) (ps:List Nat) (a b:VC) (st:Nat) (pe:Jump):zga f (.lp tm ps a b st pe)= .lp (zfu f tm) ps a b st pe:=rfl
theorem zBM (tm:Env) (hp:Hp) (seen:List Nat):zK2 tm hp seen=⟨zfu (pos seen) tm,zdq hp (pos seen) seen 0 [],seen.length,0⟩:=rfl
attribute [go_sem] zuS zpu zxg zvn zwC zuB zwe zud zoN zxe zyE zC3 zGn zzo zva zpQ zB0 zy1 zKT zJ8 zHk
 zxy zxl zvp zAk zAR zyY zB9 zwK zvN zvt zC7 zws zCL zyj zAL zvV zuA zCD zBD zKi zAK zvS zu4 zAF zCO
 zt3 zpx zEJ zGD zEz zCx zBM List.length_cons List.length_nil
end VE
end
section
namespace VE
open Go (IntKind)
section
variable {P:zN} {L:Lib}
theorem zI (k id o:Nat):zod k (.ptr id o)=some (.ptr id (o+k)):=rfl
theorem zak {α:Type} (a:α) (l:List α):List.drop 1 (a::l)=l:=rfl
theorem zMM {α:Type} (a b:α) (l:List α):List.drop 2 (a::b::l)=l:=rfl
theorem zDi {α:Type} (a b c:α) (l:List α):List.drop 3 (a::b::c::l)=l:=rfl
end
end VE
end
section
namespace VE
open Go (IntKind)
section
variable {P:zN} {L:Lib}
abbrev Nm (n:Int):AV:= .agg [zh n,.nils]
theorem zbo (hp:Hp) (ct id:Nat) (a:Int) (x y:AV):stC hp ct id 0 2 [.int .i64 a,.nils] (some (.cells true true true 2 [x,y]))=some (.tup [],z7 hp id (.cells true true true 2 [.int .i64 a,.nils]),ct):=rfl
theorem zhd (hp:Hp):zeI .sl .nils .nils=some true:=rfl
theorem zal (b:Bool):zwj false (some b)=some (.bool b):=by cases b<;>rfl
theorem zpG (f:Run) (tm:Env) (hp:Hp) (ct:Nat) (x y:X):zZ P L f tm hp ct (.mn [x,y])=rd hp ct (min2 (zp tm x) (zp tm y)):=by
 simp only [zZ,rd,zB,zaz,ziv];cases min2 (zp tm x) (zp tm y)<;>rfl
theorem zeq (f:Run) (tm:Env) (hp:Hp) (ct:Nat) (x y:X):zZ P L f tm hp ct (.mx [x,y])=rd hp ct (max2 (zp tm x) (zp tm y)):=by
 simp only [zZ,rd,zB,zaz,ziv];cases max2 (zp tm x) (zp tm y)<;>rfl
theorem zkG (k k':IntKind) (x y:Int):min2 (.int k x) (.int k' y)=some (.int k (if y<x then y else x)):=rfl
theorem zb9 (k k':IntKind) (x y:Int):max2 (.int k x) (.int k' y)=some (.int k (if y>x then y else x)):=rfl
def sgn (n:Int):Int:=if n<0 then -1 else if n=0 then 0 else 1
theorem zyS (n:Int):(if (if n<1 then n else 1)> -1 then (if n<1 then n else 1) else -1)=sgn n:=by
 unfold sgn;by_cases h1:n<0
 ·rw [if_pos (show n<1 by omega),if_pos h1];split<;>omega
 ·by_cases h2:n=0
  ·subst h2;rfl
  ·rw [if_neg (show ¬n<1 by omega),if_neg h1,if_neg h2];rfl
theorem zQC (h:Has P L 117 zxM) (n:Int):zK P L 117 [zh n] (Nm n):=by
 unfold zK;rw [zf h];simp only [go_sem,reduceEqDiff,reduceAdd,reduceLeDiff,zxM,zu,Nat.zero_add,zbo];rfl
theorem zQA (h:Has P L 147 zlb) {n:Int} (hn: -9223372036854775808<n∧n<9223372036854775808):zK P L 147 [Nm n] (Nm (-n)):=by
 unfold zK;rw [zf h]
 simp only [go_sem,reduceEqDiff,reduceAdd,reduceLeDiff,zlb,zu,zbo,zhd,zal,zI,Nat.zero_add,zak,show ¬n= -9223372036854775808 by omega,ze (n:=0-n) (by omega) (by omega)];simp only [Int.zero_sub];rfl
theorem zHE (h:Has P L 146 zmm) (n:Int):zK P L 146 [Nm n] (zh (sgn n)):=by
 unfold zK;rw [zf h];simp only [go_sem,reduceEqDiff,reduceAdd,zmm,zu,zI,Nat.zero_add,zpG,zeq,zkG,zb9,zyS]
theorem zfj (hp:Hp) (p q:Bool):zeI .b (.bool p) (.bool q)=some (p==q):=rfl
end
end VE
end
section
namespace VE
open Go (IntKind)
section
variable {P:zN} {L:Lib}
theorem zaA {n:Nat} {sp:List AV→Option AV} (h:L.pure n=some sp) {f:Run} (vals:List AV):zk P L f n vals=sp vals:=by simp only [zk,h]
abbrev U64 (n:Int):AV:= .int .u64 n
theorem zMQ {n:Int} (h1:0≤n) (h2:n<18446744073709551616):IntKind.wrap .u64 n=n:=by
 simp only [IntKind.wrap,IntKind.signed,IntKind.bits]
 have:n%2^64=n:=Int.emod_eq_of_lt h1 (by omega)
 rw [show ((2:Int)^64)=18446744073709551616 from rfl] at this;simpa using this
theorem zzc (n:Int):ziV (.toInt .u64) (zh n)=some (U64 (IntKind.wrap .u64 n)):=rfl
theorem zmC (n:Int):ziV (.toInt .i64) (U64 n)=some (zh (IntKind.wrap .i64 n)):=rfl
theorem zj0 (b:Bool):zwj true (some b)=some (.bool (!b)):=by cases b<;>rfl
theorem zJx (a b c d:AV):zb6 0 [a,b] [c,d]=[a,b]:=rfl
theorem z6 (a b:AV) (r:List AV):ld1 2 true (a::b::r)=some (.agg [a,b]):=rfl
theorem zgl (a b c d:AV) (r:List AV):ld1 4 true (a::b::c::d::r)=some (.agg [a,b,c,d]):=rfl
theorem zNJ (h:Has P L 163 zmR) (h147:Has P L 147 zlb) {n:Int} (hn: -9223372036854775808<n∧n<9223372036854775808):zK P L 163 [Nm n] (Nm n.natAbs):=by
 have e1:=zQA h147 hn;unfold zK at e1 ⊢;rw [zf h];by_cases h0:n<0
 ·simp only [go_sem,reduceEqDiff,reduceAdd,zmR,zu,zbo,zI,Nat.zero_add,h0,z6,zG,e1];rw [show -n=(n.natAbs:Int) by omega];rfl
 ·simp only [go_sem,reduceEqDiff,reduceAdd,zmR,zu,zbo,zI,Nat.zero_add,h0,z6];rw [show ((n.natAbs:Nat):Int)=n by omega];rfl
theorem zlJ {a b:Int} (hb:0<b):(a.tmod b<0→a/b=a.tdiv b-1∧a%b=a.tmod b+b)∧(¬a.tmod b<0→a/b=a.tdiv b∧a%b=a.tmod b):=by
 have h1:=Int.mul_tdiv_add_tmod a b;have h2:a.tmod b<b:=Int.tmod_lt_of_pos a hb;have h3: -b<a.tmod b:=Int.lt_tmod_of_pos a hb;refine ⟨fun h=>(Int.ediv_emod_unique hb).2 ⟨?_,?_,?_⟩,fun h=>(Int.ediv_emod_unique hb).2 ⟨?_,?_,?_⟩⟩
 ·rw [Int.mul_sub,Int.mul_one];omega
 ·omega
 ·omega
 ·omega
 ·omega
 ·omega
theorem zNb (h:Has P L 164 c164) {a b:Int} (ha: -4611686018427387904<a∧a<4611686018427387904) (hb:0<b∧b<4611686018427387904):zK P L 164 [Nm a,Nm b] (.tup [Nm (a/b),Nm (a%b)]):=by
 obtain ⟨f1,f2⟩:=zlJ (a:=a) hb.1;have hq: -4611686018427387904<a.tdiv b∧a.tdiv b<4611686018427387904:=by
  have:=Int.natAbs_tdiv_le_natAbs a b
  omega
 have hr: -4611686018427387904<a.tmod b∧a.tmod b<4611686018427387904:=by
  have:=Int.tmod_lt_of_pos a hb.1
  have:=Int.lt_tmod_of_pos a hb.1
  omega
 unfold zK;rw [zf h];by_cases h0:a.tmod b<0
 ·obtain ⟨g1,g2⟩:=f1 h0;rw [g1,g2]
  simp only [go_sem,reduceEqDiff,reduceAdd,reduceLeDiff,c164,zu,zbo,zhd,zal,zI,Nat.zero_add,zak,show ¬a= -9223372036854775808 by omega,zai _ _ _ (show b≠0 by omega),zaK _ _ _ (show b≠0 by omega),h0,ze (n:=a.tdiv b) (by omega) (by omega),ze (n:=a.tdiv b-1) (by omega) (by omega),ze (n:=a.tmod b+b) (by omega) (by omega)];rfl
 ·obtain ⟨g1,g2⟩:=f2 h0;rw [g1,g2]
  simp only [go_sem,reduceEqDiff,reduceAdd,reduceLeDiff,c164,zu,zbo,zhd,zal,zI,Nat.zero_add,zak,show ¬a= -9223372036854775808 by omega,zai _ _ _ (show b≠0 by omega),zaK _ _ _ (show b≠0 by omega),h0,ze (n:=a.tdiv b) (by omega) (by omega)];rfl
theorem zNQ (h:Has P L 148 zuf) (h146:Has P L 146 zmm) (h164:Has P L 164 c164) {a b:Int} (ha: -4611686018427387904<a∧a<4611686018427387904) (hb:0<b∧b<4611686018427387904):zK P L 148 [Nm a,Nm b] (Nm (a/b)):=by
 have e1:=zHE h146 b;have e2:=zNb h164 ha hb;have e3:sgn b=1:=by unfold sgn;rw [if_neg (by omega),if_neg (by omega)]
 rw [e3] at e1;unfold zK at e1 e2 ⊢;rw [zf h];simp only [go_sem,reduceEqDiff,reduceAdd,zuf,Int.reduceLT,decide_false,zu,zbo,Nat.zero_add,z6,zG,e1,e2,zcV];rfl
theorem zno (a b:Nat) (hb:b≠0):Nat.gcd b (a%b)=Nat.gcd a b:=by
 rw [Nat.gcd_comm b,←Nat.gcd_rec,Nat.gcd_comm]
theorem zJe (h146:Has P L 146 zmm) (h164:Has P L 164 c164) (G:Nat):
  ∀k s,(∃x y:Nat,zA [2,3,4] s=⟨[(2,.ptr 0 0),(3,.ptr 1 0),(4,.ptr 2 0)],[(2,.cells true true true 2 [zh 0,.nils]),(1,.cells true true true 2 [zh y,.nils]),(0,.cells true true true 2 [zh x,.nils])],3,0⟩∧x<4611686018427387904∧y<4611686018427387904∧Nat.gcd x y=G∧y=k)→
   ∃ex s',D P L (.loop [2,3,4] zfd) s=some (ex,s')∧∃tm,s'=⟨tm,[(2,.cells true true true 2 [zh 0,.nils]),(1,.cells true true true 2 [zh 0,.nils]),(0,.cells true true true 2 [zh G,.nils])],3,0⟩∧ex= .exit 0∧zc tm 2= .ptr 0 0∧zc tm 4= .ptr 2 0:=by
 refine zS (I:=fun k s=>∃x y:Nat,s=⟨[(2,.ptr 0 0),(3,.ptr 1 0),(4,.ptr 2 0)],[(2,.cells true true true 2 [zh 0,.nils]),(1,.cells true true true 2 [zh y,.nils]),(0,.cells true true true 2 [zh x,.nils])],3,0⟩∧x<4611686018427387904∧y<4611686018427387904∧Nat.gcd x y=G∧y=k)
  (Q:=fun ex s'=>∃tm,s'=⟨tm,[(2,.cells true true true 2 [zh 0,.nils]),(1,.cells true true true 2 [zh 0,.nils]),(0,.cells true true true 2 [zh G,.nils])],3,0⟩∧ex= .exit 0∧zc tm 2= .ptr 0 0∧zc tm 4= .ptr 2 0) ?_
 rintro k s ⟨x,y,rfl,hx,hy,hG,rfl⟩;have e1:=zHE h146 (y:Int);by_cases hy0:y=0
 ·right
  subst hy0;have e3:sgn ((0:Nat):Int)=0:=rfl;rw [e3] at e1;unfold zK at e1;simp only [go_sem,reduceEqDiff,zfd,decide_true,Bool.not_true,z6,zG,e1];obtain rfl:x=G:=by rw [←hG,Nat.gcd_zero_right]
  exact ⟨_,_,rfl,by simp,_,rfl,rfl,by simp only [go_sem,reduceEqDiff],by simp only [go_sem,reduceEqDiff]⟩
 ·left
  have e3:sgn (y:Int)=1:=by unfold sgn;rw [if_neg (by omega),if_neg (by omega)]
  rw [e3] at e1;have e2:=zNb h164 (a:=x) (b:=y) (by omega) (by omega);rw [show ((x:Int)%(y:Int))=((x%y:Nat):Int) from rfl] at e2;unfold zK at e1 e2;have hlt:=Nat.mod_lt x (show 0<y by omega);simp only [go_sem,reduceEqDiff,reduceAdd,zfd,Int.reduceEq,decide_false,Bool.not_false,zu,zbo,z6,zG,e1,e2,zcV];refine ⟨_,x%y,rfl,hlt,y,x%y,?_,hy,by omega,by rw [←hG];exact zno x y hy0,rfl⟩
  simp only [go_sem,reduceEqDiff,reduceAdd,za,zJx,Bool.true_and]
theorem zQ1 (h:Has P L 130 zun) (h163:Has P L 163 zmR) (h147:Has P L 147 zlb) (h146:Has P L 146 zmm) (h164:Has P L 164 c164) {a b:Int} (ha: -4611686018427387904<a∧a<4611686018427387904) (hb: -4611686018427387904<b∧b<4611686018427387904):zK P L 130 [Nm a,Nm b] (Nm (Int.gcd a b:Nat)):=by
 have e1:=zNJ h163 h147 (n:=a) (by omega);have e2:=zNJ h163 h147 (n:=b) (by omega);unfold zK at e1 e2 ⊢;rw [zf h];simp only [go_sem,reduceEqDiff,reduceAdd,zun,zu,zbo,z6,zG,e1,e2,zO,Nat.zero_add];generalize hq:D P L (.loop [2,3,4] zfd) _=q;obtain ⟨ex,s,rfl,tm,rfl,rfl,h2,h4⟩:=z8 hq (zJe (P:=P) (L:=L) h146 h164 (Int.gcd a b) b.natAbs) ⟨a.natAbs,b.natAbs,by simp only [go_sem,reduceEqDiff,reduceAdd,za],by omega,by omega,rfl,rfl⟩;simp only [go_sem,reduceEqDiff,reduceAdd,za,h2,h4,zbo,z6];rfl
abbrev Fq (n d:Int):AV:= .agg [zh n,.nils,zh d,.nils]
theorem zyf (hp:Hp) (ct id:Nat) (a b:Int) (x y z w:AV):stC hp ct id 0 4 [.int .i64 a,.nils,.int .i64 b,.nils] (some (.cells true true true 4 [x,y,z,w]))=some (.tup [],z7 hp id (.cells true true true 4 [.int .i64 a,.nils,.int .i64 b,.nils]),ct):=rfl
theorem zx2 (tm:Env) (x y z w:AV) (a:Int) (r:List (Nat×Nat×X)):zgd tm [x,y,z,w] 0 2 [.int .i64 a,.nils] r=fill tm [.int .i64 a,.nils,z,w] r:=rfl
theorem zxU (tm:Env) (x y z w:AV) (a:Int) (r:List (Nat×Nat×X)):zgd tm [x,y,z,w] 2 2 [.int .i64 a,.nils] r=fill tm [x,y,.int .i64 a,.nils] r:=rfl
theorem n101 (h:Has P L 101 c101) (h148:Has P L 148 zuf) (h130:Has P L 130 zun) (h163:Has P L 163 zmR) (h147:Has P L 147 zlb) (h146:Has P L 146 zmm) (h164:Has P L 164 c164) {a b:Int} (ha: -4611686018427387904<a∧a<4611686018427387904) (hb:0<b∧b<4611686018427387904):
  zK P L 101 [Nm a,Nm b] (Fq (a/(Int.gcd a b:Nat)) (b/(Int.gcd a b:Nat))):=by
 have e1:=zHE h146 b;have e3:sgn b=1:=by unfold sgn;rw [if_neg (by omega),if_neg (by omega)]
 rw [e3] at e1;have e2:=zQ1 h130 h163 h147 h146 h164 ha (b:=b) (by omega);have hg:(0:Int)<(Int.gcd a b:Nat):=by
  have:=Int.gcd_pos_of_ne_zero_right a (show b≠0 by omega)
  omega
 have hg2:((Int.gcd a b:Nat):Int)<4611686018427387904:=by
  have:=Int.gcd_le_natAbs_right a (show b≠0 by omega)
  omega
 have e4:=zNQ h148 h146 h164 ha (b:=(Int.gcd a b:Nat)) ⟨hg,hg2⟩;have e5:=zNQ h148 h146 h164 (a:=b) (b:=(Int.gcd a b:Nat)) (by omega) ⟨hg,hg2⟩;unfold zK at e1 e2 e4 e5 ⊢;rw [zf h];by_cases hb1:b=1
 ·subst hb1;rw [Int.gcd_one];simp only [go_sem,reduceEqDiff,reduceAdd,c101,Int.reduceLT,decide_false,decide_true,zu,zyf,z6,zG,e1,zI,Nat.zero_add,zak,zhd,zal,zx2,zxU];rw [show a/((1:Nat):Int)=a from Int.ediv_one a];rfl
 ·simp only [go_sem,reduceEqDiff,reduceAdd,c101,Int.reduceLT,decide_false,zu,zbo,zyf,z6,zG,e1,zI,Nat.zero_add,zak,zhd,zal,hb1,e2,e4,e5,zO,zx2,zxU];rfl
end
end VE
end
section
namespace VE
def za2 (a b:Int):Int:=a/(Int.gcd a b:Nat)
def zbl (a b:Int):Int:=b/(Int.gcd a b:Nat)
theorem zgZ {a b:Int} (hb:0<b):(0:Int)<(Int.gcd a b:Nat):=by
 have:=Int.gcd_pos_of_ne_zero_right a (show b≠0 by omega)
 omega
theorem zDZ (a b:Int):b=(Int.gcd a b:Nat)*zbl a b:=(Int.mul_ediv_cancel' (Int.gcd_dvd_right a b)).symm
theorem zfD {a b:Int} (hb:0<b):0<zbl a b:=by
 have h1:=zgZ (a:=a) hb;have h2:=zDZ a b;rcases Int.lt_trichotomy (zbl a b) 0 with h | h | h
 ·have:=Int.mul_neg_of_pos_of_neg h1 h;omega
 ·rw [h,Int.mul_zero] at h2;omega
 ·exact h
theorem zn5 (a b:Int):(za2 a b).natAbs≤a.natAbs:=by
 unfold za2;rw [Int.natAbs_ediv_of_dvd (Int.gcd_dvd_left a b)];exact Nat.div_le_self _ _
theorem znd (a b:Int):(zbl a b).natAbs≤b.natAbs:=by
 unfold zbl;rw [Int.natAbs_ediv_of_dvd (Int.gcd_dvd_right a b)];exact Nat.div_le_self _ _
def zoO (a b:Int):List Nat:=if zbl a b=1 then zW (za2 a b) else zW (za2 a b)++[47]++zW (zbl a b)
end VE
end
