import Derived.Test.YtahpdocnbjccfaaGreatDoorTaz
import Derived.Test.YtahpdocnbjccfaaGreatDoorTay
import Derived.Test.YtahpdocnbjccfaaGreatDoorTas
set_option linter.all false
set_option maxRecDepth 100000
open Nat (reduceAdd reduceEqDiff reduceLT reduceLeDiff)
section
namespace VE
open Go (IntKind)
section
variable {P:zP} {L:Lib}
abbrev zn (P:zP) (L:Lib) (f:Nat) (vals:List AV) (r:AV):Prop:=zx P L (D P L) f vals=some r
theorem s30 (h:Has P L 30 c30) (n lo hi:Int):zn P L 30 [zf n,zf lo,zf hi] (zf (if n<lo∨hi<n then 3 else 0)):=by
 unfold zn;rw [zc h]
 by_cases h1:n<lo
 ·simp only [go_sem,reduceEqDiff,c30,h1,true_or,if_true]
 ·by_cases h2:hi<n
  ·simp only [go_sem,reduceEqDiff,c30,h1,h2,or_true,if_true]
  ·simp only [go_sem,reduceEqDiff,c30,h1,h2,or_self,if_false]
theorem s31 (h:Has P L 31 c31) (b:Bool) (n:Int):zn P L 31 [.bool b,zf n] (zf (if b=true then n else 0)):=by
 unfold zn;rw [zc h]
 cases b with
 | true=>simp only [go_sem,reduceEqDiff,c31,if_true]
 | false=>simp only [go_sem,reduceEqDiff,c31];rfl
theorem s13 (h:Has P L 13 c13) (b:Bool) (n:Int):zn P L 13 [.bool b,zf n] (zf (if b=true then n else 0)):=by
 unfold zn;rw [zc h]
 cases b with
 | true=>simp only [go_sem,reduceEqDiff,c13,if_true]
 | false=>simp only [go_sem,reduceEqDiff,c13];rfl
theorem s33 (h:Has P L 33 c33) {v:AV} {l:List Int} (hv:IsI v l) (hl:l.length≤1000000):zn P L 33 [v] (zf (zG l)):=by
 unfold zn;rw [zc h]
 simp only [go_sem,reduceEqDiff,c33,hv.len]
 have key:=zfY (P:=P) (L:=L) (live:=[5,6,7]) (a:=zqB)
  (I:=fun k s=>∃tm ct i,s=⟨tm,[],ct,0⟩∧zd tm 5=v∧zd tm 6=zf l.length∧zd tm 7=zf (i:Nat)∧i+k=l.length∧zG (l.drop i)=zG l)
  (Q:=fun ex s=>∃tm,s=⟨tm,[],0,0⟩∧((ex= .ret∧zd tm 2=zf (zG l))∨(ex= .exit 0∧zG l=0))) ?_ l.length
 ·generalize hq:D P L (.loop [5,6,7] zqB) _=q
  obtain ⟨ex,s,rfl,tm,rfl,h2⟩:=zW hq key ⟨_,_,0,rfl,rfl,rfl,rfl,by omega,rfl⟩
  rcases h2 with ⟨rfl,h2⟩ | ⟨rfl,h2⟩
  ·simp only [go_sem,h2]
  ·rw [h2];simp only [go_sem]
 ·rintro k s ⟨tm,ct,i,rfl,h5,h6,h7,hk,hf⟩
  rw [zdZ (by simp only [go_sem,h5,h6,h7,hv.pu])]
  simp only [go_sem,reduceEqDiff,h5,h6,h7,zqB]
  by_cases hi:i<l.length
  ·have hi':(i:Int)<l.length:=by omega
   rw [zfQ hi] at hf
   by_cases hz:l[i]=0
   ·left
    simp only [go_sem,reduceEqDiff,hi',hv.ixa hi,hz]
    refine ⟨_,k-1,rfl,by omega,_,_,i+1,rfl,?_⟩
    rw [zh (by omega) (by omega)]
    rw [if_pos hz] at hf
    simp only [go_sem,reduceEqDiff]
    exact ⟨trivial,trivial,rfl,by omega,hf⟩
   ·right
    simp only [go_sem,reduceEqDiff,hi',hv.ixa hi,hz]
    rw [if_neg hz] at hf
    refine ⟨_,_,rfl,by simp,_,rfl,.inl ⟨rfl,?_⟩⟩
    simp only [go_sem,hf]
  ·right
   have hi':¬(i:Int)<l.length:=by omega
   simp only [go_sem,hi']
   refine ⟨_,_,rfl,by simp,_,rfl,.inr ⟨rfl,?_⟩⟩
   rw [←hf,List.drop_eq_nil_of_le (by omega)]
   rfl
theorem s42 (h:Has P L 42 c42) {v:AV} {l:List Int} (hv:IsI v l) (hl:l.length≤1000000):zn P L 42 [v] (zf (zG l)):=by
 unfold zn;rw [zc h]
 simp only [go_sem,c42]
 have key:=zfY (P:=P) (L:=L) (live:=[0,3]) (a:=zrh)
  (I:=fun k s=>∃tm ct i,s=⟨tm,[],ct,0⟩∧zd tm 0=v∧zd tm 3=zf (i:Nat)∧i+k=l.length∧zG (l.drop i)=zG l)
  (Q:=fun ex s=>∃tm,s=⟨tm,[],0,0⟩∧((ex= .ret∧zd tm 2=zf (zG l))∨(ex= .exit 0∧zG l=0))) ?_ l.length
 ·generalize hq:D P L (.loop [0,3] zrh) _=q
  obtain ⟨ex,s,rfl,tm,rfl,h2⟩:=zW hq key ⟨_,_,0,rfl,rfl,rfl,by omega,rfl⟩
  rcases h2 with ⟨rfl,h2⟩ | ⟨rfl,h2⟩
  ·simp only [go_sem,h2]
  ·rw [h2];simp only [go_sem]
 ·rintro k s ⟨tm,ct,i,rfl,h0,h3,hk,hf⟩
  rw [zdZ (by simp only [go_sem,h0,h3,hv.pu])]
  simp only [go_sem,reduceEqDiff,h0,h3,zrh,hv.len]
  by_cases hi:i<l.length
  ·have hi':(i:Int)<l.length:=by omega
   rw [zfQ hi] at hf
   by_cases hz:l[i]=0
   ·left
    simp only [go_sem,reduceEqDiff,hi',hv.ixa hi,hz]
    refine ⟨_,k-1,rfl,by omega,_,_,i+1,rfl,?_⟩
    rw [zh (by omega) (by omega)]
    rw [if_pos hz] at hf
    simp only [go_sem,reduceEqDiff]
    exact ⟨trivial,rfl,by omega,hf⟩
   ·right
    simp only [go_sem,reduceEqDiff,hi',hv.ixa hi,hz]
    rw [if_neg hz] at hf
    refine ⟨_,_,rfl,by simp,_,rfl,.inl ⟨rfl,?_⟩⟩
    simp only [go_sem,hf]
  ·right
   have hi':¬(i:Int)<l.length:=by omega
   simp only [go_sem,hi']
   refine ⟨_,_,rfl,by simp,_,rfl,.inr ⟨rfl,?_⟩⟩
   rw [←hf,List.drop_eq_nil_of_le (by omega)]
   rfl
theorem s11 (h:Has P L 11 c11) (h42:Has P L 42 c42) {v:AV} {l:List Int} (hv:IsI v l) (hl:l.length≤1000000):zn P L 11 [v] (zf (zG l)):=by
 unfold zn;rw [zc h]
 simp only [go_sem,reduceEqDiff,c11,hv.frz,s42 h42 hv hl]
end
end VE
end
section
namespace VE
open Go (IntKind)
section
variable {P:zP} {L:Lib} {f:Run} {tm:Env} {hp:Hp} {ct:Nat}
theorem zs0 (k:IntKind) (n:Int):cellsOf (.int k n)=[.int k n]:=(rfl)
theorem zpW (b:Bool):cellsOf (.bool b)=[.bool b]:=(rfl)
theorem zs9 (s:List Nat):cellsOf (.str s)=[.str s]:=(rfl)
theorem zp3:cellsOf .nils=[.nils]:=(rfl)
theorem zsy (e:Bool) (n:Nat) (cs:List AV):cellsOf (.vsl e n cs)=[.vsl e n cs]:=(rfl)
theorem zsi (id o n:Nat):cellsOf (.osl id o n)=[.osl id o n]:=(rfl)
theorem ztO (id o:Nat):cellsOf (.ptr id o)=[.ptr id o]:=(rfl)
theorem zvW (g:Fr) (a b:List AV):cellsOf (.fn g a b)=[.fn g a b]:=(rfl)
theorem zrZ (cs:List AV):cellsOf (.agg cs)=cs:=(rfl)
theorem znd (k:IntKind) (n:Int):zX (.int k n)=true:=(rfl)
theorem zxe (b:Bool):zX (.bool b)=true:=(rfl)
theorem zAg (s:List Nat):zX (.str s)=true:=(rfl)
theorem zxl:zX .nils=true:=(rfl)
theorem zAY (e:Bool) (n:Nat) (cs:List AV):zX (.vsl e n cs)=true:=(rfl)
theorem zAO (id o n:Nat):zX (.osl id o n)=true:=(rfl)
theorem zyo (id o:Nat):zX (.ptr id o)=true:=(rfl)
theorem zC7 (g:Fr) (a b:List AV):zX (.fn g a b)=true:=(rfl)
theorem zxk:zL []=true:=(rfl)
theorem zmc (v:AV) (r:List AV):zL (v::r)=(zX v&&zL r):=(rfl)
theorem zsR:zu []=true:=(rfl)
theorem zp8 (v:AV) (r:List AV):zu (v::r)=(zD v&&zu r):=(rfl)
theorem zCP (id o:Nat):zD (.ptr id o)=false:=(rfl)
theorem zEy (id o n:Nat):zD (.osl id o n)=false:=(rfl)
theorem zG8 (g:Nat) (a b:List AV):zD (.fn (.f g) a b)=(zu a&&zu b):=(rfl)
theorem zIS (l:Nat) (a b:List AV):zD (.fn (.y l) a b)=false:=(rfl)
theorem zEs (cs:List AV):zD (.agg cs)=zu cs:=(rfl)
theorem zDP (cs:List AV):zD (.tup cs)=zu cs:=(rfl)
def zpd (ct sz:Nat) (cs:List AV):Option (AV×Obj):=bif Nat.beq cs.length sz&&zL cs then some (.ptr ct 0,.cells true (zu cs) true sz cs) else none
theorem zDn (sz:Nat) (x:X):zab tm hp ct (.box sz x)=zpd ct sz (cellsOf (zy tm x)):=rfl
theorem zGP {v:AV} (h:zX v=true):zpd ct 1 [v]=some (.ptr ct 0,.cells true (zD v&&true) true 1 [v]):=by
 simp [zpd,zL,zu,h]
theorem zg {cs:List AV} {n:Nat} (hn:cs.length=n) (h:zL cs=true):zpd ct n cs=some (.ptr ct 0,.cells true (zu cs) true n cs):=by
 subst hn;simp [zpd,h]
def stC (hp:Hp) (ct id o sz:Nat) (new:List AV) (q:Option Obj):Res:=
 match q with
 | some (.cells true pu ex z cs)=>bif Nat.beq new.length sz&&Nat.ble (o+sz) cs.length&&zL new then some (.tup [],zac hp id (.cells true (pu&&zu new) ex z (zck o new cs)),ct) else none
 | _=>none
def stV (hp:Hp) (ct sz:Nat) (p:AV) (new:List AV):Res:=match p with | .ptr id o=>stC hp ct id o sz new (zA hp id) | _=>none
theorem zn8 (sz:Nat) (x v:X):zY tm hp ct (.st sz x v)=stV hp ct sz (zy tm x) (cellsOf (zy tm v)):=rfl
theorem zA8 (sz id o:Nat) (new:List AV):stV hp ct sz (.ptr id o) new=stC hp ct id o sz new (zA hp id):=rfl
theorem zJr {v u:AV} {id z:Nat} {pu ex:Bool} (h:zX v=true):stC hp ct id 0 1 [v] (some (.cells true pu ex z [u]))=some (.tup [],zac hp id (.cells true (pu&&(zD v&&true)) ex z [v]),ct):=by
 simp [stC,zL,zu,h,zck]
 rfl
theorem zlZ {new cs:List AV} {id o sz z:Nat} {pu ex:Bool} (h1:new.length=sz) (h2:o+sz≤cs.length) (h:zL new=true):
  stC hp ct id o sz new (some (.cells true pu ex z cs))=some (.tup [],zac hp id (.cells true (pu&&zu new) ex z (zck o new cs)),ct):=by
 subst h1;simp [stC,h,Nat.ble_eq_true_of_le h2]
def zrb (ct n sz:Nat) (q:Option (List AV)):Option (AV×Obj):=match q with | some cs=>bif Nat.beq cs.length (n*sz) then some (.osl ct 0 n,.cells true (zu cs) true sz cs) else none | none=>none
theorem zzy (n sz:Nat) (z:List AV) (ps:List (Nat×Nat×X)):zab tm hp ct (.mksl n sz z ps)=zrb ct n sz (fill tm z ps):=by
 simp only [zab,zrb];cases fill tm z ps<;>rfl
theorem zAd {n sz:Nat} {cs:List AV} (h:cs.length=n*sz):zrb ct n sz (some cs)=some (.osl ct 0 n,.cells true (zu cs) true sz cs):=by
 simp [zrb,h]
def ze0 (tm:Env) (cs:List AV) (o sz:Nat) (new:List AV) (r:List (Nat×Nat×X)):Option (List AV):=
 bif Nat.beq new.length sz&&Nat.ble (o+sz) cs.length&&zL new then fill tm (zck o new cs) r else none
theorem zwR (cs:List AV):fill tm cs []=some cs:=rfl
theorem ztu (cs:List AV) (o sz:Nat) (x:X) (r:List (Nat×Nat×X)):fill tm cs ((o,sz,x)::r)=ze0 tm cs o sz (cellsOf (zy tm x)) r:=rfl
theorem zqP {cs:List AV} {o:Nat} {v:AV} {r:List (Nat×Nat×X)} (h1:o+1≤cs.length) (h2:zX v=true):ze0 tm cs o 1 [v] r=fill tm (zck o [v] cs) r:=by
 simp [ze0,zL,h2,Nat.ble_eq_true_of_le h1]
theorem zhG {cs new:List AV} {o sz:Nat} {r:List (Nat×Nat×X)} (h0:new.length=sz) (h1:o+sz≤cs.length) (h2:zL new=true):ze0 tm cs o sz new r=fill tm (zck o new cs) r:=by
 subst h0;simp [ze0,h2,Nat.ble_eq_true_of_le h1]
theorem zHw (v u:AV) (r:List AV):zck 0 [v] (u::r)=v::r:=rfl
theorem zGu (v a u:AV) (r:List AV):zck 1 [v] (a::u::r)=a::v::r:=rfl
theorem zIg (v a b u:AV) (r:List AV):zck 2 [v] (a::b::u::r)=a::b::v::r:=rfl
theorem zGS (v a b c u:AV) (r:List AV):zck 3 [v] (a::b::c::u::r)=a::b::c::v::r:=rfl
theorem zHG (v a b c d u:AV) (r:List AV):zck 4 [v] (a::b::c::d::u::r)=a::b::c::d::v::r:=rfl
theorem zF4 (v a b c d e u:AV) (r:List AV):zck 5 [v] (a::b::c::d::e::u::r)=a::b::c::d::e::v::r:=rfl
def zox (ct sz by':Nat) (zero:List AV) (l c:Option Nat):Option (AV×Obj):=
 match l,c with
 | some l,some c=>bif Nat.ble l c&&(Nat.ble c zcc&&(Nat.ble (c*by') zcc&&(Nat.beq zero.length sz&&zL zero))) then some (.osl ct 0 l,.cells true (zu zero) (Nat.beq l c) sz (List.replicate l zero).flatten) else none
 | _,_=>none
theorem zEg (sz by':Nat) (z:List AV) (l c:X):zab tm hp ct (.mks sz by' z l c)=zox ct sz by' z (zaO (zy tm l)) (zaO (zy tm c)):=by
 simp only [zab,zox]
 cases zaO (zy tm l)<;>cases zaO (zy tm c)<;>rfl
theorem zm6 {sz by' l:Nat} {z:List AV} (h1:l≤1099511627776) (h2:l*by'≤1099511627776) (h3:z.length=sz) (h4:zL z=true):
  zox ct sz by' z (some l) (some l)=some (.osl ct 0 l,.cells true (zu z) true sz (List.replicate l z).flatten):=by
 subst h3
 simp [zox,h4,Nat.ble_eq_true_of_le (show l≤zcc from h1),Nat.ble_eq_true_of_le (show l*by'≤zcc from h2),Nat.ble_eq_true_of_le (Nat.le_refl l)]
def zo9 (hp:Hp) (ct sz by':Nat) (s:AV) (src:Option (Nat×List AV)):Res:=
 match src with
 | none=>none
 | some (m,new)=>
  match s with
  | .nils=>
   bif Nat.beq m 0 then some (.nils,hp,ct)
   else bif Nat.ble m zcc&&(Nat.ble (m*by') zcc&&Nat.blt 0 sz) then some (.osl ct 0 m,(ct,.cells true (zu new) false sz new)::hp,ct+1) else none
  | .vsl true n cs=>
   bif Nat.beq m 0 then some (.vsl true n cs,hp,ct)
   else bif Nat.ble (n+m) zcc&&(Nat.ble ((n+m)*by') zcc&&(Nat.beq cs.length (n*sz)&&Nat.blt 0 sz)) then some (.osl ct 0 (n+m),(ct,.cells true (zu cs&&zu new) false sz (cs++new))::hp,ct+1) else none
  | .osl id o n=>
   match zA hp id with
   | some (.cells true pu _ z cs)=>
    bif Nat.beq z sz&&(Nat.ble (n+m) zcc&&(Nat.ble ((n+m)*by') zcc&&(Nat.ble (o+n*sz) cs.length&&(Nat.blt 0 sz&&zL new)))) then
     some (.osl ct 0 (n+m),(ct,.cells true (pu&&zu new) false sz (slice o (n*sz) cs++new))::hdel hp id,ct+1)
    else none
   | _=>none
  | _=>none
theorem zs3 (sz by':Nat) (s x:X):zY tm hp ct (.app sz by' s x)=zo9 hp ct sz by' (zy tm s) (zfm hp sz (zy tm x)):=by
 simp only [zY,zo9]
 cases zfm hp sz (zy tm x) with
 | none=>rfl
 | some q=>obtain ⟨m,new⟩:=q;cases zy tm s<;>rfl
theorem zql (sz id o n:Nat):zfm hp sz (.osl id o n)=zc1 hp sz (.osl id o n):=rfl
theorem zqt (sz:Nat) (e:Bool) (n:Nat) (cs:List AV):zfm hp sz (.vsl e n cs)=zc1 hp sz (.vsl e n cs):=rfl
theorem znF (sz:Nat):zfm hp sz .nils=some (0,[]):=rfl
def atC (o n sz:Nat) (q:Option Obj):Option (Nat×List AV):=match q with | some (.cells _ _ _ _ cs)=>bif Nat.ble (o+n*sz) cs.length then some (n,slice o (n*sz) cs) else none | _=>none
theorem zn4 (sz id o n:Nat):zc1 hp sz (.osl id o n)=atC o n sz (zA hp id):=rfl
theorem zGD (rw pu ex:Bool) (z:Nat) (v:AV):atC 0 1 1 (some (.cells rw pu ex z [v]))=some (1,[v]):=rfl
theorem zby {sz by':Nat} {new:List AV} {m:Nat} (hm:0<m) (h1:m≤1099511627776) (h2:m*by'≤1099511627776) (hs:0<sz):
  zo9 hp ct sz by' .nils (some (m,new))=some (.osl ct 0 m,(ct,.cells true (zu new) false sz new)::hp,ct+1):=by
 have e1:Nat.beq m 0=false:=zaP (by omega)
 have e2:Nat.blt 0 sz=true:=Nat.ble_eq_true_of_le hs
 simp [zo9,e1,e2,Nat.ble_eq_true_of_le (show m≤zcc from h1),Nat.ble_eq_true_of_le (show m*by'≤zcc from h2)]
theorem zbV {sz by' id n m:Nat} {pu ex:Bool} {cs new:List AV} (hg:zA hp id=some (.cells true pu ex sz cs)) (hl:cs.length=n*sz) (h1:n+m≤1099511627776) (h2:(n+m)*by'≤1099511627776) (hs:0<sz) (ho:zL new=true):
  zo9 hp ct sz by' (.osl id 0 n) (some (m,new))=some (.osl ct 0 (n+m),(ct,.cells true (pu&&zu new) false sz (cs++new))::hdel hp id,ct+1):=by
 have e2:Nat.blt 0 sz=true:=Nat.ble_eq_true_of_le hs
 simp only [zo9,hg]
 simp [e2,ho,Nat.ble_eq_true_of_le (show n+m≤zcc from h1),Nat.ble_eq_true_of_le (show (n+m)*by'≤zcc from h2),←hl,slice,Nat.ble_eq_true_of_le (Nat.le_refl cs.length)]
def zH5 (n:Nat) (g:Nat) (cap:List AV) (q:Option (List AV×Hp)):Option (AV×Hp):=match q with | some (first,hp)=>(match zR n hp cap with | some (cap',hp2)=>some (.fn (.f g) first cap',hp2) | none=>none) | none=>none
def zFZ (g:Nat) (first:List AV) (q:Option (List AV×Hp)):Option (AV×Hp):=match q with | some (cap,hp)=>some (.fn (.f g) first cap,hp) | none=>none
theorem zFp (n g:Nat) (first cap:List AV):zai (n+1) hp (.fn (.f g) first cap)=zH5 n g cap (zR n hp first):=rfl
theorem zDo (n g:Nat) (first cap:List AV):zH5 n g cap (some (first,hp))=zFZ g first (zR n hp cap):=rfl
theorem zFe (g:Nat) (first cap:List AV):zFZ g first (some (cap,hp))=some (.fn (.f g) first cap,hp):=rfl
def zG9 (o:Nat) (q:Option (Bool×Nat×List AV×Hp)):Option (AV×Hp):=match q with | some (_,_,cs,hp)=>some (.vptr (cs.drop o),hp) | none=>none
theorem zAh (n id o:Nat):zai (n+1) hp (.ptr id o)=zG9 o (zbQ n hp id):=rfl
theorem zEu (o:Nat) (ex:Bool) (sz:Nat) (cs:List AV):zG9 o (some (ex,sz,cs,hp))=some (.vptr (cs.drop o),hp):=rfl
def zgl (o k:Nat) (q:Option (Bool×Nat×List AV×Hp)):Option (AV×Hp):=
 match q with
 | some (ex,sz,cs,hp)=>bif Nat.ble (o+k*sz) cs.length then some (.vsl (ex&&Nat.blt 0 sz&&Nat.beq (o+k*sz) cs.length) k (slice o (k*sz) cs),hp) else none
 | none=>none
theorem zAn (n id o k:Nat):zai (n+1) hp (.osl id o k)=zgl o k (zbQ n hp id):=rfl
theorem zdq {sz k:Nat} {cs:List AV} (ex:Bool) (hl:cs.length=k*sz) (hs:0<sz):zgl 0 k (some (ex,sz,cs,hp))=some (.vsl ex k cs,hp):=by
 have e2:Nat.blt 0 sz=true:=Nat.ble_eq_true_of_le hs
 simp [zgl,←hl,e2,slice,Nat.ble_eq_true_of_le (Nat.le_refl cs.length)]
def zDk (n id:Nat) (hp:Hp) (q:Option Obj):Option (Bool×Nat×List AV×Hp):=
 match q with
 | some (.cells rw pu ex sz cs)=>
  bif pu then some (ex,sz,cs,bif rw then zac hp id (.cells false true ex sz cs) else hp)
  else match zR n hp cs with
   | some (cs',hp')=>some (ex,sz,cs',zac hp' id (.cells false false ex sz cs))
   | none=>none
 | _=>none
theorem zyF (n id:Nat):zbQ (n+1) hp id=zDk n id hp (zA hp id):=rfl
theorem zEd (n id:Nat) (ex:Bool) (sz:Nat) (cs:List AV):zDk n id hp (some (.cells true true ex sz cs))=some (ex,sz,cs,zac hp id (.cells false true ex sz cs)):=rfl
theorem zEW (n id:Nat) (ex:Bool) (sz:Nat) (cs:List AV):zDk n id hp (some (.cells false true ex sz cs))=some (ex,sz,cs,hp):=rfl
theorem zi (n:Nat) (cs:List AV) (h:zR n hp cs=some (cs,hp)):zai (n+1) hp (.agg cs)=some (.agg cs,hp):=by
 simp only [zai,h]
theorem zlk {id n sz:Nat} {ex:Bool} {cs:List AV} (hg:zA hp id=some (.cells true true ex sz cs)) (hl:cs.length=n*sz) (hs:0<sz):zaR hp (.osl id 0 n)=some (.fsl ex sz n cs):=by
 have e2:Nat.blt 0 sz=true:=Nat.ble_eq_true_of_le hs
 simp only [zaR,zgB,hg,Nat.zero_add,←hl,Nat.ble_eq_true_of_le (Nat.le_refl cs.length),cond_true,e2,Bool.and_true,slice,List.drop_zero,List.take_length]
 simp
theorem zlD (b:Bool):zaR hp (.tup [.nils,.bool b])=some (.tup [.nils,.bool b]):=rfl
theorem zls (k:IntKind) (b:Int):zaR hp (.tup [.nils,.int k b])=some (.tup [.nils,.int k b]):=rfl
theorem zlz (e:Bool) (n:Nat) (cs:List AV) (k:IntKind) (b:Int):zaR hp (.tup [.vsl e n cs,.int k b])=some (.tup [.vsl e n cs,.int k b]):=rfl
theorem zrW (s:St):zfC [] s=some s:=rfl
def fzC (t:Nat) (r:List Nat) (tm:Env) (ct base:Nat) (q:Option (AV×Hp)):Option St:=match q with | some (v,hp)=>zfC r ⟨(t,v)::tm,hp,ct,base⟩ | none=>none
theorem zp9 (t:Nat) (r:List Nat) (tm:Env) (hp:Hp) (ct base:Nat):zfC (t::r) ⟨tm,hp,ct,base⟩=fzC t r tm ct base (zai zcl hp (zd tm t)):=by
 simp only [zfC,fzC];cases zai zcl hp (zd tm t)<;>rfl
theorem zGB (t:Nat) (r:List Nat) (tm:Env) (ct base:Nat) (v:AV) (hp:Hp):fzC t r tm ct base (some (v,hp))=zfC r ⟨(t,v)::tm,hp,ct,base⟩:=rfl
end
attribute [go_sem] zlD zls zlz zs0 zpW zs9 zp3 zsy zsi ztO zvW zrZ znd zxe zAg zxl zAY zAO zyo zC7 zxk zmc
 zsR zp8 zCP zEy zG8 zIS zEs zDP zDn zGP zn8 zA8 zJr zzy zwR ztu zHw zGu zIg zGS zHG zF4 zEg
 zs3 zql zqt znF zn4 zGD zFp zDo zFe zAh zEu zAn zdq zAd zqP zyF zEd zEW zrW zp9 zGB
 Bool.and_false Bool.false_and List.drop_zero eq_self
end VE
end
section
namespace VE
open Go (IntKind)
theorem zoq:∀hp:Hp,za8 0 hp=[]
 | []=>rfl
 | (id,o)::r=>by
  have:Nat.blt id 0=false:=rfl
  simp only [za8,this,cond_false,zoq r]
theorem zvc (f:Nat→Option Nat):∀hp:Hp,zd8 0 f hp=[]
 | []=>rfl
 | (id,o)::r=>by
  have:Nat.blt id 0=false:=rfl
  simp only [zd8,this,cond_false,zvc f r]
def pos (seen:List Nat):Nat→Option Nat:=fun id=>zgM id seen 0
def zFo (tm:Env) (hp:Hp) (seen:List Nat):St:=⟨zfI (pos seen) tm,zdr hp (pos seen) seen 0 [],seen.length,0⟩
def rch (hp:Hp):Nat→List Nat→List Nat→List Nat:=zfE hp 0
theorem za (live:List Nat) (tm:Env) (hp:Hp) (ct:Nat):zE live ⟨tm,hp,ct,0⟩=zFo (keep tm live) hp (rch hp 100000 (zcF (keep tm live)) []):=by
 have e:∀seen,zdv 0 seen=pos seen:=fun seen=>by
  funext id
  have:Nat.blt id 0=false:=rfl
  simp only [zdv,this,cond_false,pos]
 simp only [zE,zoq,List.append_nil,e,zvc,zFo,rch,Nat.zero_add]
theorem zr6:zcF []=[]:=rfl
theorem zpN (i:Nat) (v:AV) (r:Env):zcF ((i,v)::r)=zcK v++zcF r:=rfl
theorem zvh (k:IntKind) (n:Int):zcK (.int k n)=[]:=rfl
theorem ztj (b:Bool):zcK (.bool b)=[]:=rfl
theorem zxT (s:List Nat):zcK (.str s)=[]:=rfl
theorem ztD:zcK .nils=[]:=rfl
theorem zu9 (e:Bool) (n:Nat) (cs:List AV):zcK (.vsl e n cs)=[]:=rfl
theorem ztE (cs:List AV):zcK (.vptr cs)=[]:=rfl
theorem zqw:zcK .undef=[]:=rfl
theorem zxY (id o:Nat):zcK (.ptr id o)=[id]:=rfl
theorem zu8 (id o n:Nat):zcK (.osl id o n)=[id]:=rfl
theorem zyV (g:Nat) (a b:List AV):zcK (.fn (.f g) a b)=zcE a++zcE b:=rfl
theorem zE6 (l:Nat) (a b:List AV):zcK (.fn (.y l) a b)=[l]:=rfl
theorem zuX (cs:List AV):zcK (.agg cs)=zcE cs:=rfl
theorem ztl:zcE []=[]:=rfl
theorem zp2 (v:AV) (r:List AV):zcE (v::r)=zcK v++zcE r:=rfl
def zAl (hp:Hp) (n id:Nat) (work seen:List Nat) (q:Option Obj):List Nat:=match q with | some o=>rch hp n (zeq o++work) (seen++[id]) | none=>rch hp n work seen
def zy6 (hp:Hp) (n id:Nat) (work seen:List Nat) (b:Bool):List Nat:=bif b then rch hp n work seen else zAl hp n id work seen (zA hp id)
theorem zzq (hp:Hp) (n:Nat) (seen:List Nat):rch hp (n+1) [] seen=seen:=rfl
theorem zwY (hp:Hp) (n id:Nat) (work seen:List Nat):rch hp (n+1) (id::work) seen=zy6 hp n id work seen (zgq id seen):=by
 have:Nat.blt id 0=false:=rfl
 simp only [rch,zfE,this,Bool.false_or,zy6,zAl]
 cases zgq id seen with
 | true=>rfl
 | false=>simp only [cond_false];cases zA hp id<;>rfl
theorem zCx (hp:Hp) (n id:Nat) (work seen:List Nat):zy6 hp n id work seen true=rch hp n work seen:=rfl
theorem zCy (hp:Hp) (n id:Nat) (work seen:List Nat):zy6 hp n id work seen false=zAl hp n id work seen (zA hp id):=rfl
theorem zDu (hp:Hp) (n id:Nat) (work seen:List Nat) (o:Obj):zAl hp n id work seen (some o)=rch hp n (zeq o++work) (seen++[id]):=rfl
theorem zue (i:Nat):zgq i []=false:=rfl
theorem zxq (i:Nat) (r:List Nat):zgq i (i::r)=true:=by simp only [zgq,Nat.beq_refl,cond_true]
theorem ztJ {i j:Nat} (r:List Nat) (h:j≠i):zgq i (j::r)=zgq i r:=by simp only [zgq,zaP h,cond_false]
theorem zza (rw ex:Bool) (sz:Nat) (cs:List AV):zeq (.cells rw true ex sz cs)=[]:=rfl
theorem zyH (rw ex:Bool) (sz:Nat) (cs:List AV):zeq (.cells rw false ex sz cs)=zcE cs:=rfl
theorem zvb (tm:Env) (ps:List Nat) (a b:VC) (st:Nat) (pe:Jump):zeq (.lp tm ps a b st pe)=zcF tm:=rfl
theorem zAb (i:Nat) (r:List Nat) (k:Nat):zgM i (i::r) k=some k:=by simp only [zgM,Nat.beq_refl,cond_true]
theorem zxs {i j:Nat} (r:List Nat) (k:Nat) (h:j≠i):zgM i (j::r) k=zgM i r (k+1):=by simp only [zgM,zaP h,cond_false]
def zB3 (o:Nat) (q:Option Nat):AV:=match q with | some j=> .ptr j o | none=> .undef
def zBM (o n:Nat) (q:Option Nat):AV:=match q with | some j=> .osl j o n | none=> .undef
theorem zvm (s:List Nat):zfI (pos s) []=[]:=rfl
theorem ztf (s:List Nat) (i:Nat) (v:AV) (r:Env):zfI (pos s) ((i,v)::r)=(i,ren (pos s) v)::zfI (pos s) r:=rfl
theorem zyw (s:List Nat) (k:IntKind) (n:Int):ren (pos s) (.int k n)= .int k n:=rfl
theorem zxv (s:List Nat) (b:Bool):ren (pos s) (.bool b)= .bool b:=rfl
theorem zyM (s:List Nat) (t:List Nat):ren (pos s) (.str t)= .str t:=rfl
theorem zwP (s:List Nat):ren (pos s) .nils= .nils:=rfl
theorem zz4 (s:List Nat) (e:Bool) (n:Nat) (cs:List AV):ren (pos s) (.vsl e n cs)= .vsl e n cs:=rfl
theorem zun (s:List Nat) (cs:List AV):ren (pos s) (.vptr cs)= .vptr cs:=rfl
theorem ztC (s:List Nat):ren (pos s) .undef= .undef:=rfl
theorem zzU (s:List Nat) (id o:Nat):ren (pos s) (.ptr id o)=zB3 o (zgM id s 0):=rfl
theorem zyx (s:List Nat) (id o n:Nat):ren (pos s) (.osl id o n)=zBM o n (zgM id s 0):=rfl
theorem zDA (s:List Nat) (g:Nat) (a b:List AV):ren (pos s) (.fn (.f g) a b)= .fn (.f g) (zc3 (pos s) a) (zc3 (pos s) b):=rfl
theorem zy0 (s:List Nat) (cs:List AV):ren (pos s) (.agg cs)= .agg (zc3 (pos s) cs):=rfl
theorem zt1 (s:List Nat):zc3 (pos s) []=[]:=rfl
theorem zsW (s:List Nat) (v:AV) (r:List AV):zc3 (pos s) (v::r)=ren (pos s) v::zc3 (pos s) r:=rfl
theorem zAD (o j:Nat):zB3 o (some j)= .ptr j o:=rfl
theorem zzE (o n j:Nat):zBM o n (some j)= .osl j o n:=rfl
def zDS (hp:Hp) (f:Nat→Option Nat) (r:List Nat) (k:Nat) (acc:Hp) (q:Option Obj):Hp:=match q with | some o=>zdr hp f r (k+1) ((k,zgm f o)::acc) | none=>zdr hp f r (k+1) acc
theorem zst (hp:Hp) (s:List Nat) (k:Nat) (acc:Hp):zdr hp (pos s) [] k acc=acc:=rfl
theorem zqe (hp:Hp) (s:List Nat) (id:Nat) (r:List Nat) (k:Nat) (acc:Hp):zdr hp (pos s) (id::r) k acc=zDS hp (pos s) r k acc (zA hp id):=by
 simp only [zdr,zDS];cases zA hp id<;>rfl
theorem zDR (hp:Hp) (s r:List Nat) (k:Nat) (acc:Hp) (o:Obj):zDS hp (pos s) r k acc (some o)=zdr hp (pos s) r (k+1) ((k,zgm (pos s) o)::acc):=rfl
theorem zDe (f:Nat→Option Nat) (rw ex:Bool) (sz:Nat) (cs:List AV):zgm f (.cells rw true ex sz cs)= .cells rw true ex sz cs:=rfl
theorem zC9 (f:Nat→Option Nat) (rw ex:Bool) (sz:Nat) (cs:List AV):zgm f (.cells rw false ex sz cs)= .cells rw false ex sz (zc3 f cs):=rfl
theorem zzG (f:Nat→Option Nat) (tm:Env) (ps:List Nat) (a b:VC) (st:Nat) (pe:Jump):zgm f (.lp tm ps a b st pe)= .lp (zfI f tm) ps a b st pe:=rfl
theorem zAa (tm:Env) (hp:Hp) (seen:List Nat):zFo tm hp seen=⟨zfI (pos seen) tm,zdr hp (pos seen) seen 0 [],seen.length,0⟩:=rfl
attribute [go_sem] zr6 zpN zvh ztj zxT ztD zu9 ztE zqw zxY zu8 zyV zE6 zuX ztl zp2 zzq zwY zCx zCy zDu
 zue zxq ztJ zza zyH zvb zAb zxs zvm ztf zyw zxv zyM zwP zz4 zun ztC zzU zyx zDA zy0 zt1 zsW zAD zzE
 zst zqe zDR zDe zC9 zzG zAa List.length_cons List.length_nil
end VE
end
section
namespace VE
open Go (IntKind)
section
variable {P:zP} {L:Lib}
theorem zws {α:Type} {p:α→Bool} {l:List α} {i:Nat} (h:i<l.length):(l.drop i).any p=(p l[i]||(l.drop (i+1)).any p):=by
 rw [List.drop_eq_getElem_cons h,List.any_cons]
theorem zJ2 (h:Has P L 132 zui) {v:AV} {l:List Int} (hv:IsI v l) (hl:l.length≤1000000) {g:Nat} {cap:List AV} {p:Int→Bool} (hc:zu cap=true)
  (hz:∀x hp,zR zcl hp (zf x::cap)=some (zf x::cap,hp)) (hg:∀x,zn P L g (zf x::cap) (.bool (p x))):∃n:Int,zn P L 132 [v,.fn (.f g) [] cap] (zf n)∧decide (0≤n)=l.any p:=by
 have hpf:zD (.fn (.f g) [] cap)=true:=by simp [zD,zu,hc]
 simp only [zn,zcl] at hg hz
 have key:=zfY (P:=P) (L:=L) (live:=[0,1,7,8]) (a:=znk)
  (I:=fun k s=>∃tm ct i,s=⟨tm,[],ct,0⟩∧zd tm 0=v∧zd tm 1= .fn (.f g) [] cap∧zd tm 7=zf l.length∧zd tm 8=zf (i:Nat)∧i+k=l.length∧(l.drop i).any p=l.any p)
  (Q:=fun ex s=>∃tm,s=⟨tm,[],0,0⟩∧((∃n:Int,ex= .ret∧zd tm 4=zf n∧0≤n∧l.any p=true)∨(ex= .exit 0∧l.any p=false))) ?_ l.length
 ·simp only [zn]
  rw [zc h]
  simp only [go_sem,reduceEqDiff,zui,hv.len]
  generalize hq:D P L (.loop [0,1,7,8] znk) _=q
  obtain ⟨ex,s,rfl,tm,rfl,h2⟩:=zW hq key ⟨_,_,0,rfl,rfl,rfl,rfl,rfl,by omega,rfl⟩
  rcases h2 with ⟨n,rfl,h2,h3,h4⟩ | ⟨rfl,h2⟩
  ·exact ⟨n,by simp only [go_sem,h2],by rw [h4];simpa using h3⟩
  ·exact ⟨-1,by simp only [go_sem],by rw [h2];decide⟩
 ·rintro k s ⟨tm,ct,i,rfl,h0,h1,h7,h8,hk,hf⟩
  rw [zdZ (by simp only [go_sem,h0,h1,h7,h8,hv.pu,hpf])]
  simp only [go_sem,reduceEqDiff,h0,h1,h7,h8,znk]
  by_cases hi:i<l.length
  ·have hi':(i:Int)<l.length:=by omega
   rw [zws hi] at hf
   cases hz':p l[i] with
   | false=>
    left
    simp only [go_sem,reduceEqDiff,hi',hv.ixa hi,hz,hg,hz']
    refine ⟨_,k-1,rfl,by omega,_,_,i+1,rfl,?_⟩
    rw [zh (by omega) (by omega)]
    rw [hz',Bool.false_or] at hf
    simp only [go_sem,reduceEqDiff]
    exact ⟨trivial,trivial,trivial,rfl,by omega,hf⟩
   | true=>
    right
    simp only [go_sem,reduceEqDiff,hi',hv.ixa hi,hz,hg,hz']
    refine ⟨_,_,rfl,by simp,_,rfl,.inl ⟨i,rfl,?_,by omega,?_⟩⟩
    ·simp only [go_sem]
    ·rw [←hf,hz',Bool.true_or]
  ·right
   have hi':¬(i:Int)<l.length:=by omega
   simp only [go_sem,hi']
   refine ⟨_,_,rfl,by simp,_,rfl,.inr ⟨rfl,?_⟩⟩
   rw [←hf,List.drop_eq_nil_of_le (by omega)]
   rfl
theorem s95 (h:Has P L 95 c95) (h132:Has P L 132 zui) {v:AV} {l:List Int} (hv:IsI v l) (hl:l.length≤1000000) {g:Nat} {cap:List AV} {p:Int→Bool} (hc:zu cap=true)
  (hz:∀x hp,zR zcl hp (zf x::cap)=some (zf x::cap,hp)) (hg:∀x,zn P L g (zf x::cap) (.bool (p x)))
  (hz2:∀n hp,zai (n+500) hp (.fn (.f g) [] cap)=some (.fn (.f g) [] cap,hp)):zn P L 95 [v,.fn (.f g) [] cap] (.bool (l.any p)):=by
 obtain ⟨n,h1,h2⟩:=zJ2 h132 hv hl hc hz hg
 unfold zn at h1 ⊢
 rw [zc h]
 have hz2':∀hp,zai 998 hp (.fn (.f g) [] cap)=some (.fn (.f g) [] cap,hp):=fun hp=>hz2 498 hp
 simp only [go_sem,reduceEqDiff,c95,hv.frz,hz2',h1,h2]
theorem s94 (h:Has P L 94 c94) {m:Int} (hm:0≤m) (hm':m≤1000000) (x:Int):zn P L 94 [zf x,.vptr [zf m]] (.bool (decide (x< -m∨m<x))):=by
 unfold zn;rw [zc h]
 by_cases h1:x< -m
 ·simp only [go_sem,reduceEqDiff,c94,zhQ,zh (n:=0-m) (by omega) (by omega),show x<0-m by omega,h1,true_or]
 ·by_cases h2:m<x
  ·simp only [go_sem,reduceEqDiff,c94,zhQ,zh (n:=0-m) (by omega) (by omega),show ¬x<0-m by omega,h1,h2,or_true]
  ·simp only [go_sem,reduceEqDiff,c94,zhQ,zh (n:=0-m) (by omega) (by omega),show ¬x<0-m by omega,h1,h2,or_self]
theorem zuy (m:Int) (l:List Int):l.any (fun x=>decide (x< -m∨m<x))=zbe (-m) m l:=by
 induction l with
 | nil=>rfl
 | cons a r ih=>
  simp only [List.any_cons,zbe,ih]
  by_cases h:a< -m∨m<a
  ·simp [h]
  ·simp [h]
structure Sq (P:zP) (L:Lib):Prop where
 h32:Has P L 32 c32
 h31:Has P L 31 c31
 h33:Has P L 33 c33
 h94:Has P L 94 c94
 h95:Has P L 95 c95
 h132:Has P L 132 zui
 h4:Has P L 4 c4
 h9:Has P L 9 c9
theorem s32 (h:Sq P L) {v:AV} {s:List (List Int)} (hv:IsS v s) (hl:s.length≤1000000) (hr:∀i (hi:i<s.length),s[i].length≤1000000) {m:Int} (hm:0≤m) (hm':m≤1000000):
  zn P L 32 [v,zf m] (zf (zcM s.length (-m) m s)):=by
 have key:=zM (P:=P) (L:=L) (live:=[0,3,9,10,11]) (a:=zq4)
  (I:=fun k st=>∃(i:Nat) (rw:Bool),st=⟨[(0,v),(3,.ptr 0 0),(9,v),(10,zf s.length),(11,zf i)],[(0,.cells rw true true 1 [zf m])],1,0⟩∧i+k=s.length∧zcM s.length (-m) m (s.drop i)=zcM s.length (-m) m s)
  (Q:=fun ex st=>∃tm hp ct,st=⟨tm,hp,ct,0⟩∧((ex= .ret∧zd tm 4=zf (zcM s.length (-m) m s))∨(ex= .exit 0∧zcM s.length (-m) m s=0))) ?_
 ·unfold zn;rw [zc h.h32]
  simp only [go_sem,reduceEqDiff,reduceAdd,c32,hv.len]
  generalize hq:D P L (.loop [0,3,9,10,11] zq4) _=q
  obtain ⟨ex,st,rfl,tm,hp,ct,rfl,h2⟩:=zW hq (key s.length) ⟨0,true,by simp only [go_sem,reduceEqDiff,reduceAdd,za,zb hv.pu,ze _ hv.pu]<;>rfl,by omega,rfl⟩
  rcases h2 with ⟨rfl,h2⟩ | ⟨rfl,h2⟩
  ·simp only [go_sem,h2]
  ·rw [h2];simp only [go_sem,za]
 ·rintro k st ⟨i,rw,rfl,hk,hf⟩
  simp only [go_sem,reduceEqDiff,zq4]
  by_cases hi:i<s.length
  ·have hi':(i:Int)<s.length:=by omega
   rw [zgV hi] at hf
   obtain ⟨r,rest,hr1,hr2⟩:=hv.ixa hi
   have hc:zn P L 95 [r,.fn (.f 94) [] [.vptr [zf m]]] (.bool (zbe (-m) m s[i])):=by
    rw [←zuy]
    exact s95 h.h95 h.h132 hr1 (hr i hi) rfl (fun x hp=>by simp only [go_sem]) (fun x=>s94 h.h94 hm hm' x) (fun n hp=>by simp only [go_sem])
   have hf2:∀a b:Int,zn P L 33 [.vsl true 2 [.int .i64 a,.int .i64 b]] (zf (zG [a,b])):=fun a b=>s33 h.h33 (zaY true [a,b]) (by simp)
   unfold zn at hc hf2
   by_cases h1:s[i].length=s.length
   ·have h1':(s[i].length:Int)=s.length:=by omega
    simp only [h1,ne_eq,not_true_eq_false,if_false] at hf
    cases h2:zbe (-m) m s[i] with
    | false=>
     left
     simp only [h2,Bool.false_eq_true,if_false] at hf
     cases rw<;>simp only [go_sem,reduceEqDiff,reduceAdd,reduceLT,reduceLeDiff,Nat.mul_one,hi',hr2,hc,h1',h2,s31 h.h31,hf2,hr1.len,hr1.frz,hv.len,Bool.false_eq_true,if_false,zG,if_true]
     all_goals
      refine ⟨_,k-1,rfl,by omega,i+1,false,?_,by omega,hf⟩
      rw [zh (by omega) (by omega)]
      simp only [go_sem,reduceEqDiff,reduceAdd,za,zb hv.pu,ze _ hv.pu]
      rfl
    | true=>
     right
     simp only [h2,if_true] at hf
     cases rw<;>simp only [go_sem,reduceEqDiff,reduceAdd,reduceLT,reduceLeDiff,Nat.mul_one,hi',hr2,hc,h1',h2,s31 h.h31,hf2,hr1.len,hr1.frz,hv.len,Bool.false_eq_true,if_false,zG,if_true,Int.reduceEq]
     all_goals
      refine ⟨_,_,rfl,by simp,_,_,_,rfl,.inl ⟨rfl,?_⟩⟩
      simp only [go_sem,hf]
   ·right
    have h1':¬(s[i].length:Int)=s.length:=by omega
    simp only [h1,ne_eq,not_false_eq_true,if_true] at hf
    cases h2:zbe (-m) m s[i]<;>cases rw<;>simp only [go_sem,reduceEqDiff,reduceAdd,reduceLT,reduceLeDiff,Nat.mul_one,hi',hr2,hc,h1',h2,s31 h.h31,hf2,hr1.len,hr1.frz,hv.len,Bool.false_eq_true,if_false,zG,if_true,Int.reduceEq]
    all_goals
     refine ⟨_,_,rfl,by simp,_,_,_,rfl,.inl ⟨rfl,?_⟩⟩
     simp only [go_sem,hf]
  ·right
   have hi':¬(i:Int)<s.length:=by omega
   simp only [go_sem,hi']
   refine ⟨_,_,rfl,by simp,_,_,_,rfl,.inr ⟨rfl,?_⟩⟩
   rw [←hf,List.drop_eq_nil_of_le (by omega)]
   rfl
end
end VE
end
