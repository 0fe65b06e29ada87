import Derived.Test.YtdipnpnbdogioaaGreatDoorTaz
import Derived.Test.YtdipnpnbdogioaaGreatDoorTay
import Derived.Test.YtdipnpnbdogioaaGreatDoorTas
set_option linter.all false
set_option maxRecDepth 100000
open Nat (reduceAdd reduceEqDiff reduceLT reduceLeDiff)
section
namespace VE
open Go (IntKind)
section
variable {P:zQ} {L:Lib}
abbrev zx (P:zQ) (L:Lib) (f:Nat) (vals:List AV) (r:AV):Prop:=zp P L (D P L) f vals=some r
theorem s30 (h:Has P L 30 c30) (n lo hi:Int):zx P L 30 [zh n,zh lo,zh hi] (zh (if n<lo∨hi<n then 3 else 0)):=by
 unfold zx;rw [zd h];by_cases h1:n<lo
 ·simp only [go_sem,reduceEqDiff,c30,h1,true_or,if_true]
 ·by_cases h2:hi<n
  ·simp only [go_sem,reduceEqDiff,c30,h1,h2,or_true,if_true]
  ·simp only [go_sem,reduceEqDiff,c30,h1,h2,or_self,if_false]
theorem s31 (h:Has P L 31 c31) (b:Bool) (n:Int):zx P L 31 [.bool b,zh n] (zh (if b=true then n else 0)):=by
 unfold zx;rw [zd h]
 cases b with
 | true=>simp only [go_sem,reduceEqDiff,c31,if_true]
 | false=>simp only [go_sem,reduceEqDiff,c31];rfl
theorem s33 (h:Has P L 33 c33) {v:AV} {l:List Int} (hv:IsI v l) (hl:l.length≤1000000):zx P L 33 [v] (zh (zM l)):=by
 unfold zx;rw [zd h];simp only [go_sem,reduceEqDiff,c33,hv.len];have key:=zfS (P:=P) (L:=L) (live:=[5,6,7]) (a:=zrt)
  (I:=fun k s=>∃tm ct i,s=⟨tm,[],ct,0⟩∧zc tm 5=v∧zc tm 6=zh l.length∧zc tm 7=zh (i:Nat)∧i+k=l.length∧zM (l.drop i)=zM l)
  (Q:=fun ex s=>∃tm,s=⟨tm,[],0,0⟩∧((ex= .ret∧zc tm 2=zh (zM l))∨(ex= .exit 0∧zM l=0))) ?_ l.length
 ·generalize hq:D P L (.loop [5,6,7] zrt) _=q;obtain ⟨ex,s,rfl,tm,rfl,h2⟩:=zY hq key ⟨_,_,0,rfl,rfl,rfl,rfl,by omega,rfl⟩;rcases h2 with ⟨rfl,h2⟩ | ⟨rfl,h2⟩
  ·simp only [go_sem,h2]
  ·rw [h2];simp only [go_sem]
 ·rintro k s ⟨tm,ct,i,rfl,h5,h6,h7,hk,hf⟩;rw [zd4 (by simp only [go_sem,h5,h6,h7,hv.pu])];simp only [go_sem,reduceEqDiff,h5,h6,h7,zrt];by_cases hi:i<l.length
  ·have hi':(i:Int)<l.length:=by omega
   rw [zfR hi] at hf;by_cases hz:l[i]=0
   ·left
    simp only [go_sem,reduceEqDiff,hi',hv.ixa hi,hz];refine ⟨_,k-1,rfl,by omega,_,_,i+1,rfl,?_⟩;rw [zf (by omega) (by omega)];rw [if_pos hz] at hf;simp only [go_sem,reduceEqDiff];exact ⟨trivial,trivial,rfl,by omega,hf⟩
   ·right
    simp only [go_sem,reduceEqDiff,hi',hv.ixa hi,hz];rw [if_neg hz] at hf;refine ⟨_,_,rfl,by simp,_,rfl,.inl ⟨rfl,?_⟩⟩;simp only [go_sem,hf]
  ·right
   have hi':¬(i:Int)<l.length:=by omega
   simp only [go_sem,hi'];refine ⟨_,_,rfl,by simp,_,rfl,.inr ⟨rfl,?_⟩⟩;rw [←hf,List.drop_eq_nil_of_le (by omega)];rfl
theorem s42 (h:Has P L 42 c42) {v:AV} {l:List Int} (hv:IsI v l) (hl:l.length≤1000000):zx P L 42 [v] (zh (zM l)):=by
 unfold zx;rw [zd h];simp only [go_sem,c42];have key:=zfS (P:=P) (L:=L) (live:=[0,3]) (a:=zrN)
  (I:=fun k s=>∃tm ct i,s=⟨tm,[],ct,0⟩∧zc tm 0=v∧zc tm 3=zh (i:Nat)∧i+k=l.length∧zM (l.drop i)=zM l)
  (Q:=fun ex s=>∃tm,s=⟨tm,[],0,0⟩∧((ex= .ret∧zc tm 2=zh (zM l))∨(ex= .exit 0∧zM l=0))) ?_ l.length
 ·generalize hq:D P L (.loop [0,3] zrN) _=q;obtain ⟨ex,s,rfl,tm,rfl,h2⟩:=zY hq key ⟨_,_,0,rfl,rfl,rfl,by omega,rfl⟩;rcases h2 with ⟨rfl,h2⟩ | ⟨rfl,h2⟩
  ·simp only [go_sem,h2]
  ·rw [h2];simp only [go_sem]
 ·rintro k s ⟨tm,ct,i,rfl,h0,h3,hk,hf⟩;rw [zd4 (by simp only [go_sem,h0,h3,hv.pu])];simp only [go_sem,reduceEqDiff,h0,h3,zrN,hv.len];by_cases hi:i<l.length
  ·have hi':(i:Int)<l.length:=by omega
   rw [zfR hi] at hf;by_cases hz:l[i]=0
   ·left
    simp only [go_sem,reduceEqDiff,hi',hv.ixa hi,hz];refine ⟨_,k-1,rfl,by omega,_,_,i+1,rfl,?_⟩;rw [zf (by omega) (by omega)];rw [if_pos hz] at hf;simp only [go_sem,reduceEqDiff];exact ⟨trivial,rfl,by omega,hf⟩
   ·right
    simp only [go_sem,reduceEqDiff,hi',hv.ixa hi,hz];rw [if_neg hz] at hf;refine ⟨_,_,rfl,by simp,_,rfl,.inl ⟨rfl,?_⟩⟩;simp only [go_sem,hf]
  ·right
   have hi':¬(i:Int)<l.length:=by omega
   simp only [go_sem,hi'];refine ⟨_,_,rfl,by simp,_,rfl,.inr ⟨rfl,?_⟩⟩;rw [←hf,List.drop_eq_nil_of_le (by omega)];rfl
end
end VE
end
section
namespace VE
open Go (IntKind)
section
variable {P:zQ} {L:Lib} {f:Run} {tm:Env} {hp:Hp} {ct:Nat}
theorem ztK (k:IntKind) (n:Int):cellsOf (.int k n)=[.int k n]:=(rfl)
theorem zpJ (b:Bool):cellsOf (.bool b)=[.bool b]:=(rfl)
theorem ztL (s:List Nat):cellsOf (.str s)=[.str s]:=(rfl)
theorem zqt:cellsOf .nils=[.nils]:=(rfl)
theorem zsL (e:Bool) (n:Nat) (cs:List AV):cellsOf (.vsl e n cs)=[.vsl e n cs]:=(rfl)
theorem ztZ (id o n:Nat):cellsOf (.osl id o n)=[.osl id o n]:=(rfl)
theorem zsT (id o:Nat):cellsOf (.ptr id o)=[.ptr id o]:=(rfl)
theorem zuk (g:Fr) (a b:List AV):cellsOf (.fn g a b)=[.fn g a b]:=(rfl)
theorem zsV (cs:List AV):cellsOf (.agg cs)=cs:=(rfl)
theorem znt (k:IntKind) (n:Int):zX (.int k n)=true:=(rfl)
theorem zw1 (b:Bool):zX (.bool b)=true:=(rfl)
theorem zA1 (s:List Nat):zX (.str s)=true:=(rfl)
theorem zyh:zX .nils=true:=(rfl)
theorem zzJ (e:Bool) (n:Nat) (cs:List AV):zX (.vsl e n cs)=true:=(rfl)
theorem zBc (id o n:Nat):zX (.osl id o n)=true:=(rfl)
theorem zAf (id o:Nat):zX (.ptr id o)=true:=(rfl)
theorem zFl (g:Fr) (a b:List AV):zX (.fn g a b)=true:=(rfl)
theorem zwn:zK []=true:=(rfl)
theorem zl6 (v:AV) (r:List AV):zK (v::r)=(zX v&&zK r):=(rfl)
theorem zsk:zt []=true:=(rfl)
theorem zpB (v:AV) (r:List AV):zt (v::r)=(zD v&&zt r):=(rfl)
theorem zD7 (id o:Nat):zD (.ptr id o)=false:=(rfl)
theorem zEk (id o n:Nat):zD (.osl id o n)=false:=(rfl)
theorem zHT (g:Nat) (a b:List AV):zD (.fn (.f g) a b)=(zt a&&zt b):=(rfl)
theorem zJH (l:Nat) (a b:List AV):zD (.fn (.y l) a b)=false:=(rfl)
theorem zDE (cs:List AV):zD (.agg cs)=zt cs:=(rfl)
theorem zDW (cs:List AV):zD (.tup cs)=zt cs:=(rfl)
def zpZ (ct sz:Nat) (cs:List AV):Option (AV×Obj):=bif Nat.beq cs.length sz&&zK cs then some (.ptr ct 0,.cells true (zt cs) true sz cs) else none
theorem zDQ (sz:Nat) (x:X):zab tm hp ct (.box sz x)=zpZ ct sz (cellsOf (zy tm x)):=rfl
theorem zG6 {v:AV} (h:zX v=true):zpZ ct 1 [v]=some (.ptr ct 0,.cells true (zD v&&true) true 1 [v]):=by
 simp [zpZ,zK,zt,h]
theorem zi {cs:List AV} {n:Nat} (hn:cs.length=n) (h:zK cs=true):zpZ ct n cs=some (.ptr ct 0,.cells true (zt cs) true n cs):=by
 subst hn;simp [zpZ,h]
def stC (hp:Hp) (ct id o sz:Nat) (new:List AV) (q:Option Obj):Res:=
 match q with
 | some (.cells true pu ex z cs)=>bif Nat.beq new.length sz&&Nat.ble (o+sz) cs.length&&zK new then some (.tup [],zac hp id (.cells true (pu&&zt new) ex z (zcp o new cs)),ct) else none
 | _=>none
def stV (hp:Hp) (ct sz:Nat) (p:AV) (new:List AV):Res:=match p with | .ptr id o=>stC hp ct id o sz new (zA hp id) | _=>none
theorem zoD (sz:Nat) (x v:X):zZ tm hp ct (.st sz x v)=stV hp ct sz (zy tm x) (cellsOf (zy tm v)):=rfl
theorem zBD (sz id o:Nat) (new:List AV):stV hp ct sz (.ptr id o) new=stC hp ct id o sz new (zA hp id):=rfl
theorem zJD {v u:AV} {id z:Nat} {pu ex:Bool} (h:zX v=true):stC hp ct id 0 1 [v] (some (.cells true pu ex z [u]))=some (.tup [],zac hp id (.cells true (pu&&(zD v&&true)) ex z [v]),ct):=by
 simp [stC,zK,zt,h,zcp];rfl
theorem zl9 {new cs:List AV} {id o sz z:Nat} {pu ex:Bool} (h1:new.length=sz) (h2:o+sz≤cs.length) (h:zK new=true):
  stC hp ct id o sz new (some (.cells true pu ex z cs))=some (.tup [],zac hp id (.cells true (pu&&zt new) ex z (zcp o new cs)),ct):=by
 subst h1;simp [stC,h,Nat.ble_eq_true_of_le h2]
def zqU (ct n sz:Nat) (q:Option (List AV)):Option (AV×Obj):=match q with | some cs=>bif Nat.beq cs.length (n*sz) then some (.osl ct 0 n,.cells true (zt cs) true sz cs) else none | none=>none
theorem zyC (n sz:Nat) (z:List AV) (ps:List (Nat×Nat×X)):zab tm hp ct (.mksl n sz z ps)=zqU ct n sz (fill tm z ps):=by
 simp only [zab,zqU];cases fill tm z ps<;>rfl
theorem zAp {n sz:Nat} {cs:List AV} (h:cs.length=n*sz):zqU ct n sz (some cs)=some (.osl ct 0 n,.cells true (zt cs) true sz cs):=by
 simp [zqU,h]
def zfa (tm:Env) (cs:List AV) (o sz:Nat) (new:List AV) (r:List (Nat×Nat×X)):Option (List AV):=
 bif Nat.beq new.length sz&&Nat.ble (o+sz) cs.length&&zK new then fill tm (zcp o new cs) r else none
theorem zuC (cs:List AV):fill tm cs []=some cs:=rfl
theorem ztT (cs:List AV) (o sz:Nat) (x:X) (r:List (Nat×Nat×X)):fill tm cs ((o,sz,x)::r)=zfa tm cs o sz (cellsOf (zy tm x)) r:=rfl
theorem zqY {cs:List AV} {o:Nat} {v:AV} {r:List (Nat×Nat×X)} (h1:o+1≤cs.length) (h2:zX v=true):zfa tm cs o 1 [v] r=fill tm (zcp o [v] cs) r:=by
 simp [zfa,zK,h2,Nat.ble_eq_true_of_le h1]
theorem zhD {cs new:List AV} {o sz:Nat} {r:List (Nat×Nat×X)} (h0:new.length=sz) (h1:o+sz≤cs.length) (h2:zK new=true):zfa tm cs o sz new r=fill tm (zcp o new cs) r:=by
 subst h0;simp [zfa,h2,Nat.ble_eq_true_of_le h1]
theorem zGq (v u:AV) (r:List AV):zcp 0 [v] (u::r)=v::r:=rfl
theorem zHE (v a u:AV) (r:List AV):zcp 1 [v] (a::u::r)=a::v::r:=rfl
theorem zGg (v a b u:AV) (r:List AV):zcp 2 [v] (a::b::u::r)=a::b::v::r:=rfl
theorem zGM (v a b c u:AV) (r:List AV):zcp 3 [v] (a::b::c::u::r)=a::b::c::v::r:=rfl
theorem zHv (v a b c d u:AV) (r:List AV):zcp 4 [v] (a::b::c::d::u::r)=a::b::c::d::v::r:=rfl
theorem zIl (v a b c d e u:AV) (r:List AV):zcp 5 [v] (a::b::c::d::e::u::r)=a::b::c::d::e::v::r:=rfl
def zoz (ct sz by':Nat) (zero:List AV) (l c:Option Nat):Option (AV×Obj):=
 match l,c with
 | some l,some c=>bif Nat.ble l c&&(Nat.ble c zce&&(Nat.ble (c*by') zce&&(Nat.beq zero.length sz&&zK zero))) then some (.osl ct 0 l,.cells true (zt zero) (Nat.beq l c) sz (List.replicate l zero).flatten) else none
 | _,_=>none
theorem zFN (sz by':Nat) (z:List AV) (l c:X):zab tm hp ct (.mks sz by' z l c)=zoz ct sz by' z (zaL (zy tm l)) (zaL (zy tm c)):=by
 simp only [zab,zoz];cases zaL (zy tm l)<;>cases zaL (zy tm c)<;>rfl
theorem znn {sz by' l:Nat} {z:List AV} (h1:l≤1099511627776) (h2:l*by'≤1099511627776) (h3:z.length=sz) (h4:zK z=true):
  zoz ct sz by' z (some l) (some l)=some (.osl ct 0 l,.cells true (zt z) true sz (List.replicate l z).flatten):=by
 subst h3;simp [zoz,h4,Nat.ble_eq_true_of_le (show l≤zce from h1),Nat.ble_eq_true_of_le (show l*by'≤zce from h2),Nat.ble_eq_true_of_le (Nat.le_refl l)]
def zpS (hp:Hp) (ct sz by':Nat) (s:AV) (src:Option (Nat×List AV)):Res:=
 match src with
 | none=>none
 | some (m,new)=>
  match s with
  | .nils=>
   bif Nat.beq m 0 then some (.nils,hp,ct)
   else bif Nat.ble m zce&&(Nat.ble (m*by') zce&&Nat.blt 0 sz) then some (.osl ct 0 m,(ct,.cells true (zt new) false sz new)::hp,ct+1) else none
  | .vsl true n cs=>
   bif Nat.beq m 0 then some (.vsl true n cs,hp,ct)
   else bif Nat.ble (n+m) zce&&(Nat.ble ((n+m)*by') zce&&(Nat.beq cs.length (n*sz)&&Nat.blt 0 sz)) then some (.osl ct 0 (n+m),(ct,.cells true (zt cs&&zt new) false sz (cs++new))::hp,ct+1) else none
  | .osl id o n=>
   match zA hp id with
   | some (.cells true pu _ z cs)=>
    bif Nat.beq z sz&&(Nat.ble (n+m) zce&&(Nat.ble ((n+m)*by') zce&&(Nat.ble (o+n*sz) cs.length&&(Nat.blt 0 sz&&zK new)))) then
     some (.osl ct 0 (n+m),(ct,.cells true (pu&&zt new) false sz (slice o (n*sz) cs++new))::hdel hp id,ct+1)
    else none
   | _=>none
  | _=>none
theorem ztD (sz by':Nat) (s x:X):zZ tm hp ct (.app sz by' s x)=zpS hp ct sz by' (zy tm s) (zfq hp sz (zy tm x)):=by
 simp only [zZ,zpS]
 cases zfq hp sz (zy tm x) with
 | none=>rfl
 | some q=>obtain ⟨m,new⟩:=q;cases zy tm s<;>rfl
theorem zpY (sz id o n:Nat):zfq hp sz (.osl id o n)=zc6 hp sz (.osl id o n):=rfl
theorem zpA (sz:Nat) (e:Bool) (n:Nat) (cs:List AV):zfq hp sz (.vsl e n cs)=zc6 hp sz (.vsl e n cs):=rfl
theorem zot (sz:Nat):zfq hp sz .nils=some (0,[]):=rfl
def atC (o n sz:Nat) (q:Option Obj):Option (Nat×List AV):=match q with | some (.cells _ _ _ _ cs)=>bif Nat.ble (o+n*sz) cs.length then some (n,slice o (n*sz) cs) else none | _=>none
theorem znU (sz id o n:Nat):zc6 hp sz (.osl id o n)=atC o n sz (zA hp id):=rfl
theorem zHi (rw pu ex:Bool) (z:Nat) (v:AV):atC 0 1 1 (some (.cells rw pu ex z [v]))=some (1,[v]):=rfl
theorem zbE {sz by':Nat} {new:List AV} {m:Nat} (hm:0<m) (h1:m≤1099511627776) (h2:m*by'≤1099511627776) (hs:0<sz):
  zpS hp ct sz by' .nils (some (m,new))=some (.osl ct 0 m,(ct,.cells true (zt new) false sz new)::hp,ct+1):=by
 have e1:Nat.beq m 0=false:=zaN (by omega);have e2:Nat.blt 0 sz=true:=Nat.ble_eq_true_of_le hs;simp [zpS,e1,e2,Nat.ble_eq_true_of_le (show m≤zce from h1),Nat.ble_eq_true_of_le (show m*by'≤zce from h2)]
theorem zb2 {sz by' id n m:Nat} {pu ex:Bool} {cs new:List AV} (hg:zA hp id=some (.cells true pu ex sz cs)) (hl:cs.length=n*sz) (h1:n+m≤1099511627776) (h2:(n+m)*by'≤1099511627776) (hs:0<sz) (ho:zK new=true):
  zpS hp ct sz by' (.osl id 0 n) (some (m,new))=some (.osl ct 0 (n+m),(ct,.cells true (pu&&zt new) false sz (cs++new))::hdel hp id,ct+1):=by
 have e2:Nat.blt 0 sz=true:=Nat.ble_eq_true_of_le hs;simp only [zpS,hg];simp [e2,ho,Nat.ble_eq_true_of_le (show n+m≤zce from h1),Nat.ble_eq_true_of_le (show (n+m)*by'≤zce from h2),←hl,slice,Nat.ble_eq_true_of_le (Nat.le_refl cs.length)]
def zHD (n:Nat) (g:Nat) (cap:List AV) (q:Option (List AV×Hp)):Option (AV×Hp):=match q with | some (first,hp)=>(match zT n hp cap with | some (cap',hp2)=>some (.fn (.f g) first cap',hp2) | none=>none) | none=>none
def zId (g:Nat) (first:List AV) (q:Option (List AV×Hp)):Option (AV×Hp):=match q with | some (cap,hp)=>some (.fn (.f g) first cap,hp) | none=>none
theorem zDh (n g:Nat) (first cap:List AV):zah (n+1) hp (.fn (.f g) first cap)=zHD n g cap (zT n hp first):=rfl
theorem zDv (n g:Nat) (first cap:List AV):zHD n g cap (some (first,hp))=zId g first (zT n hp cap):=rfl
theorem zFx (g:Nat) (first cap:List AV):zId g first (some (cap,hp))=some (.fn (.f g) first cap,hp):=rfl
def zHK (o:Nat) (q:Option (Bool×Nat×List AV×Hp)):Option (AV×Hp):=match q with | some (_,_,cs,hp)=>some (.vptr (cs.drop o),hp) | none=>none
theorem zA8 (n id o:Nat):zah (n+1) hp (.ptr id o)=zHK o (zbW n hp id):=rfl
theorem zEb (o:Nat) (ex:Bool) (sz:Nat) (cs:List AV):zHK o (some (ex,sz,cs,hp))=some (.vptr (cs.drop o),hp):=rfl
def zgA (o k:Nat) (q:Option (Bool×Nat×List AV×Hp)):Option (AV×Hp):=
 match q with
 | some (ex,sz,cs,hp)=>bif Nat.ble (o+k*sz) cs.length then some (.vsl (ex&&Nat.blt 0 sz&&Nat.beq (o+k*sz) cs.length) k (slice o (k*sz) cs),hp) else none
 | none=>none
theorem zyT (n id o k:Nat):zah (n+1) hp (.osl id o k)=zgA o k (zbW n hp id):=rfl
theorem zdK {sz k:Nat} {cs:List AV} (ex:Bool) (hl:cs.length=k*sz) (hs:0<sz):zgA 0 k (some (ex,sz,cs,hp))=some (.vsl ex k cs,hp):=by
 have e2:Nat.blt 0 sz=true:=Nat.ble_eq_true_of_le hs;simp [zgA,←hl,e2,slice,Nat.ble_eq_true_of_le (Nat.le_refl cs.length)]
def zEz (n id:Nat) (hp:Hp) (q:Option Obj):Option (Bool×Nat×List AV×Hp):=
 match q with
 | some (.cells rw pu ex sz cs)=>
  bif pu then some (ex,sz,cs,bif rw then zac hp id (.cells false true ex sz cs) else hp)
  else match zT n hp cs with
   | some (cs',hp')=>some (ex,sz,cs',zac hp' id (.cells false false ex sz cs))
   | none=>none
 | _=>none
theorem zAx (n id:Nat):zbW (n+1) hp id=zEz n id hp (zA hp id):=rfl
theorem zFm (n id:Nat) (ex:Bool) (sz:Nat) (cs:List AV):zEz n id hp (some (.cells true true ex sz cs))=some (ex,sz,cs,zac hp id (.cells false true ex sz cs)):=rfl
theorem zFu (n id:Nat) (ex:Bool) (sz:Nat) (cs:List AV):zEz n id hp (some (.cells false true ex sz cs))=some (ex,sz,cs,hp):=rfl
theorem zj (n:Nat) (cs:List AV) (h:zT n hp cs=some (cs,hp)):zah (n+1) hp (.agg cs)=some (.agg cs,hp):=by
 simp only [zah,h]
theorem zj1 {id n sz:Nat} {ex:Bool} {cs:List AV} (hg:zA hp id=some (.cells true true ex sz cs)) (hl:cs.length=n*sz) (hs:0<sz):zaP hp (.osl id 0 n)=some (.fsl ex sz n cs):=by
 have e2:Nat.blt 0 sz=true:=Nat.ble_eq_true_of_le hs;simp only [zaP,zgQ,hg,Nat.zero_add,←hl,Nat.ble_eq_true_of_le (Nat.le_refl cs.length),cond_true,e2,Bool.and_true,slice,List.drop_zero,List.take_length]
 simp
theorem zlP (b:Bool):zaP hp (.tup [.nils,.bool b])=some (.tup [.nils,.bool b]):=rfl
theorem zlJ (k:IntKind) (b:Int):zaP hp (.tup [.nils,.int k b])=some (.tup [.nils,.int k b]):=rfl
theorem zlH (e:Bool) (n:Nat) (cs:List AV) (k:IntKind) (b:Int):zaP hp (.tup [.vsl e n cs,.int k b])=some (.tup [.vsl e n cs,.int k b]):=rfl
theorem zsx (s:St):zfP [] s=some s:=rfl
def fzC (t:Nat) (r:List Nat) (tm:Env) (ct base:Nat) (q:Option (AV×Hp)):Option St:=match q with | some (v,hp)=>zfP r ⟨(t,v)::tm,hp,ct,base⟩ | none=>none
theorem zpw (t:Nat) (r:List Nat) (tm:Env) (hp:Hp) (ct base:Nat):zfP (t::r) ⟨tm,hp,ct,base⟩=fzC t r tm ct base (zah zcw hp (zc tm t)):=by
 simp only [zfP,fzC];cases zah zcw hp (zc tm t)<;>rfl
theorem zG7 (t:Nat) (r:List Nat) (tm:Env) (ct base:Nat) (v:AV) (hp:Hp):fzC t r tm ct base (some (v,hp))=zfP r ⟨(t,v)::tm,hp,ct,base⟩:=rfl
end
attribute [go_sem] zlP zlJ zlH ztK zpJ ztL zqt zsL ztZ zsT zuk zsV znt zw1 zA1 zyh zzJ zBc zAf zFl zwn zl6
 zsk zpB zD7 zEk zHT zJH zDE zDW zDQ zG6 zoD zBD zJD zyC zuC ztT zGq zHE zGg zGM zHv zIl zFN
 ztD zpY zpA zot znU zHi zDh zDv zFx zA8 zEb zyT zdK zAp zqY zAx zFm zFu zsx zpw zG7
 Bool.and_false Bool.false_and List.drop_zero eq_self
end VE
end
section
namespace VE
open Go (IntKind)
theorem zos:∀hp:Hp,zbc 0 hp=[]
 | []=>rfl
 | (id,o)::r=>by
  have:Nat.blt id 0=false:=rfl
  simp only [zbc,this,cond_false,zos r]
theorem zyo (f:Nat→Option Nat):∀hp:Hp,zej 0 f hp=[]
 | []=>rfl
 | (id,o)::r=>by
  have:Nat.blt id 0=false:=rfl
  simp only [zej,this,cond_false,zyo f r]
def pos (seen:List Nat):Nat→Option Nat:=fun id=>zg1 id seen 0
def zFU (tm:Env) (hp:Hp) (seen:List Nat):St:=⟨zf9 (pos seen) tm,zdz hp (pos seen) seen 0 [],seen.length,0⟩
def rch (hp:Hp):Nat→List Nat→List Nat→List Nat:=zfM hp 0
theorem za (live:List Nat) (tm:Env) (hp:Hp) (ct:Nat):zE live ⟨tm,hp,ct,0⟩=zFU (keep tm live) hp (rch hp 100000 (zcP (keep tm live)) []):=by
 have e:∀seen,zdC 0 seen=pos seen:=fun seen=>by
  funext id
  have:Nat.blt id 0=false:=rfl
  simp only [zdC,this,cond_false,pos]
 simp only [zE,zos,List.append_nil,e,zyo,zFU,rch,Nat.zero_add]
theorem zs2:zcP []=[]:=rfl
theorem zqa (i:Nat) (v:AV) (r:Env):zcP ((i,v)::r)=zcS v++zcP r:=rfl
theorem zv8 (k:IntKind) (n:Int):zcS (.int k n)=[]:=rfl
theorem zs7 (b:Bool):zcS (.bool b)=[]:=rfl
theorem zwA (s:List Nat):zcS (.str s)=[]:=rfl
theorem zsU:zcS .nils=[]:=rfl
theorem zwY (e:Bool) (n:Nat) (cs:List AV):zcS (.vsl e n cs)=[]:=rfl
theorem zsc (cs:List AV):zcS (.vptr cs)=[]:=rfl
theorem zpn:zcS .undef=[]:=rfl
theorem zws (id o:Nat):zcS (.ptr id o)=[id]:=rfl
theorem zvX (id o n:Nat):zcS (.osl id o n)=[id]:=rfl
theorem zzm (g:Nat) (a b:List AV):zcS (.fn (.f g) a b)=zcM a++zcM b:=rfl
theorem zEu (l:Nat) (a b:List AV):zcS (.fn (.y l) a b)=[l]:=rfl
theorem zvE (cs:List AV):zcS (.agg cs)=zcM cs:=rfl
theorem ztB:zcM []=[]:=rfl
theorem zqC (v:AV) (r:List AV):zcM (v::r)=zcS v++zcM r:=rfl
def zyL (hp:Hp) (n id:Nat) (work seen:List Nat) (q:Option Obj):List Nat:=match q with | some o=>rch hp n (zeE o++work) (seen++[id]) | none=>rch hp n work seen
def zAh (hp:Hp) (n id:Nat) (work seen:List Nat) (b:Bool):List Nat:=bif b then rch hp n work seen else zyL hp n id work seen (zA hp id)
theorem zzp (hp:Hp) (n:Nat) (seen:List Nat):rch hp (n+1) [] seen=seen:=rfl
theorem zvt (hp:Hp) (n id:Nat) (work seen:List Nat):rch hp (n+1) (id::work) seen=zAh hp n id work seen (zgy id seen):=by
 have:Nat.blt id 0=false:=rfl
 simp only [rch,zfM,this,Bool.false_or,zAh,zyL]
 cases zgy id seen with
 | true=>rfl
 | false=>simp only [cond_false];cases zA hp id<;>rfl
theorem zFb (hp:Hp) (n id:Nat) (work seen:List Nat):zAh hp n id work seen true=rch hp n work seen:=rfl
theorem zFw (hp:Hp) (n id:Nat) (work seen:List Nat):zAh hp n id work seen false=zyL hp n id work seen (zA hp id):=rfl
theorem zFp (hp:Hp) (n id:Nat) (work seen:List Nat) (o:Obj):zyL hp n id work seen (some o)=rch hp n (zeE o++work) (seen++[id]):=rfl
theorem zuc (i:Nat):zgy i []=false:=rfl
theorem zvn (i:Nat) (r:List Nat):zgy i (i::r)=true:=by simp only [zgy,Nat.beq_refl,cond_true]
theorem zts {i j:Nat} (r:List Nat) (h:j≠i):zgy i (j::r)=zgy i r:=by simp only [zgy,zaN h,cond_false]
theorem zAd (rw ex:Bool) (sz:Nat) (cs:List AV):zeE (.cells rw true ex sz cs)=[]:=rfl
theorem zzf (rw ex:Bool) (sz:Nat) (cs:List AV):zeE (.cells rw false ex sz cs)=zcM cs:=rfl
theorem zxt (tm:Env) (ps:List Nat) (a b:VC) (st:Nat) (pe:Jump):zeE (.lp tm ps a b st pe)=zcP tm:=rfl
theorem zyU (i:Nat) (r:List Nat) (k:Nat):zg1 i (i::r) k=some k:=by simp only [zg1,Nat.beq_refl,cond_true]
theorem zwv {i j:Nat} (r:List Nat) (k:Nat) (h:j≠i):zg1 i (j::r) k=zg1 i r (k+1):=by simp only [zg1,zaN h,cond_false]
def zCs (o:Nat) (q:Option Nat):AV:=match q with | some j=> .ptr j o | none=> .undef
def zBp (o n:Nat) (q:Option Nat):AV:=match q with | some j=> .osl j o n | none=> .undef
theorem zxo (s:List Nat):zf9 (pos s) []=[]:=rfl
theorem zs6 (s:List Nat) (i:Nat) (v:AV) (r:Env):zf9 (pos s) ((i,v)::r)=(i,ren (pos s) v)::zf9 (pos s) r:=rfl
theorem zy9 (s:List Nat) (k:IntKind) (n:Int):ren (pos s) (.int k n)= .int k n:=rfl
theorem zvb (s:List Nat) (b:Bool):ren (pos s) (.bool b)= .bool b:=rfl
theorem zyH (s:List Nat) (t:List Nat):ren (pos s) (.str t)= .str t:=rfl
theorem zwp (s:List Nat):ren (pos s) .nils= .nils:=rfl
theorem zAr (s:List Nat) (e:Bool) (n:Nat) (cs:List AV):ren (pos s) (.vsl e n cs)= .vsl e n cs:=rfl
theorem zuY (s:List Nat) (cs:List AV):ren (pos s) (.vptr cs)= .vptr cs:=rfl
theorem zth (s:List Nat):ren (pos s) .undef= .undef:=rfl
theorem zzv (s:List Nat) (id o:Nat):ren (pos s) (.ptr id o)=zCs o (zg1 id s 0):=rfl
theorem zAY (s:List Nat) (id o n:Nat):ren (pos s) (.osl id o n)=zBp o n (zg1 id s 0):=rfl
theorem zDM (s:List Nat) (g:Nat) (a b:List AV):ren (pos s) (.fn (.f g) a b)= .fn (.f g) (zdd (pos s) a) (zdd (pos s) b):=rfl
theorem zAG (s:List Nat) (cs:List AV):ren (pos s) (.agg cs)= .agg (zdd (pos s) cs):=rfl
theorem zuS (s:List Nat):zdd (pos s) []=[]:=rfl
theorem zty (s:List Nat) (v:AV) (r:List AV):zdd (pos s) (v::r)=ren (pos s) v::zdd (pos s) r:=rfl
theorem zAU (o j:Nat):zCs o (some j)= .ptr j o:=rfl
theorem zyV (o n j:Nat):zBp o n (some j)= .osl j o n:=rfl
def zEv (hp:Hp) (f:Nat→Option Nat) (r:List Nat) (k:Nat) (acc:Hp) (q:Option Obj):Hp:=match q with | some o=>zdz hp f r (k+1) ((k,zgw f o)::acc) | none=>zdz hp f r (k+1) acc
theorem ztg (hp:Hp) (s:List Nat) (k:Nat) (acc:Hp):zdz hp (pos s) [] k acc=acc:=rfl
theorem zqI (hp:Hp) (s:List Nat) (id:Nat) (r:List Nat) (k:Nat) (acc:Hp):zdz hp (pos s) (id::r) k acc=zEv hp (pos s) r k acc (zA hp id):=by
 simp only [zdz,zEv];cases zA hp id<;>rfl
theorem zEZ (hp:Hp) (s r:List Nat) (k:Nat) (acc:Hp) (o:Obj):zEv hp (pos s) r k acc (some o)=zdz hp (pos s) r (k+1) ((k,zgw (pos s) o)::acc):=rfl
theorem zEf (f:Nat→Option Nat) (rw ex:Bool) (sz:Nat) (cs:List AV):zgw f (.cells rw true ex sz cs)= .cells rw true ex sz cs:=rfl
theorem zFe (f:Nat→Option Nat) (rw ex:Bool) (sz:Nat) (cs:List AV):zgw f (.cells rw false ex sz cs)= .cells rw false ex sz (zdd f cs):=rfl
theorem zz6 (f:Nat→Option Nat) (tm:Env) (ps:List Nat) (a b:VC) (st:Nat) (pe:Jump):zgw f (.lp tm ps a b st pe)= .lp (zf9 f tm) ps a b st pe:=rfl
theorem zyQ (tm:Env) (hp:Hp) (seen:List Nat):zFU tm hp seen=⟨zf9 (pos seen) tm,zdz hp (pos seen) seen 0 [],seen.length,0⟩:=rfl
attribute [go_sem] zs2 zqa zv8 zs7 zwA zsU zwY zsc zpn zws zvX zzm zEu zvE ztB zqC zzp zvt zFb zFw zFp
 zuc zvn zts zAd zzf zxt zyU zwv zxo zs6 zy9 zvb zyH zwp zAr zuY zth zzv zAY zDM zAG zuS zty zAU zyV
 ztg zqI zEZ zEf zFe zz6 zyQ List.length_cons List.length_nil
end VE
end
section
namespace VE
open Go (IntKind)
section
variable {P:zQ} {L:Lib}
theorem zvS {α:Type} {p:α→Bool} {l:List α} {i:Nat} (h:i<l.length):(l.drop i).any p=(p l[i]||(l.drop (i+1)).any p):=by
 rw [List.drop_eq_getElem_cons h,List.any_cons]
theorem zKu (h:Has P L 132 zwS) {v:AV} {l:List Int} (hv:IsI v l) (hl:l.length≤1000000) {g:Nat} {cap:List AV} {p:Int→Bool} (hc:zt cap=true)
  (hz:∀x hp,zT zcw hp (zh x::cap)=some (zh x::cap,hp)) (hg:∀x,zx P L g (zh x::cap) (.bool (p x))):∃n:Int,zx P L 132 [v,.fn (.f g) [] cap] (zh n)∧decide (0≤n)=l.any p:=by
 have hpf:zD (.fn (.f g) [] cap)=true:=by simp [zD,zt,hc]
 simp only [zx,zcw] at hg hz;have key:=zfS (P:=P) (L:=L) (live:=[0,1,7,8]) (a:=znc)
  (I:=fun k s=>∃tm ct i,s=⟨tm,[],ct,0⟩∧zc tm 0=v∧zc tm 1= .fn (.f g) [] cap∧zc tm 7=zh l.length∧zc tm 8=zh (i:Nat)∧i+k=l.length∧(l.drop i).any p=l.any p)
  (Q:=fun ex s=>∃tm,s=⟨tm,[],0,0⟩∧((∃n:Int,ex= .ret∧zc tm 4=zh n∧0≤n∧l.any p=true)∨(ex= .exit 0∧l.any p=false))) ?_ l.length
 ·simp only [zx];rw [zd h];simp only [go_sem,reduceEqDiff,zwS,hv.len];generalize hq:D P L (.loop [0,1,7,8] znc) _=q;obtain ⟨ex,s,rfl,tm,rfl,h2⟩:=zY hq key ⟨_,_,0,rfl,rfl,rfl,rfl,rfl,by omega,rfl⟩;rcases h2 with ⟨n,rfl,h2,h3,h4⟩ | ⟨rfl,h2⟩
  ·exact ⟨n,by simp only [go_sem,h2],by rw [h4];simpa using h3⟩
  ·exact ⟨-1,by simp only [go_sem],by rw [h2];decide⟩
 ·rintro k s ⟨tm,ct,i,rfl,h0,h1,h7,h8,hk,hf⟩;rw [zd4 (by simp only [go_sem,h0,h1,h7,h8,hv.pu,hpf])];simp only [go_sem,reduceEqDiff,h0,h1,h7,h8,znc];by_cases hi:i<l.length
  ·have hi':(i:Int)<l.length:=by omega
   rw [zvS hi] at hf
   cases hz':p l[i] with
   | false=>
    left
    simp only [go_sem,reduceEqDiff,hi',hv.ixa hi,hz,hg,hz'];refine ⟨_,k-1,rfl,by omega,_,_,i+1,rfl,?_⟩;rw [zf (by omega) (by omega)];rw [hz',Bool.false_or] at hf;simp only [go_sem,reduceEqDiff];exact ⟨trivial,trivial,trivial,rfl,by omega,hf⟩
   | true=>
    right
    simp only [go_sem,reduceEqDiff,hi',hv.ixa hi,hz,hg,hz'];refine ⟨_,_,rfl,by simp,_,rfl,.inl ⟨i,rfl,?_,by omega,?_⟩⟩
    ·simp only [go_sem]
    ·rw [←hf,hz',Bool.true_or]
  ·right
   have hi':¬(i:Int)<l.length:=by omega
   simp only [go_sem,hi'];refine ⟨_,_,rfl,by simp,_,rfl,.inr ⟨rfl,?_⟩⟩;rw [←hf,List.drop_eq_nil_of_le (by omega)];rfl
theorem s95 (h:Has P L 95 c95) (h132:Has P L 132 zwS) {v:AV} {l:List Int} (hv:IsI v l) (hl:l.length≤1000000) {g:Nat} {cap:List AV} {p:Int→Bool} (hc:zt cap=true)
  (hz:∀x hp,zT zcw hp (zh x::cap)=some (zh x::cap,hp)) (hg:∀x,zx P L g (zh x::cap) (.bool (p x)))
  (hz2:∀n hp,zah (n+500) hp (.fn (.f g) [] cap)=some (.fn (.f g) [] cap,hp)):zx P L 95 [v,.fn (.f g) [] cap] (.bool (l.any p)):=by
 obtain ⟨n,h1,h2⟩:=zKu h132 hv hl hc hz hg;unfold zx at h1 ⊢;rw [zd h];have hz2':∀hp,zah 998 hp (.fn (.f g) [] cap)=some (.fn (.f g) [] cap,hp):=fun hp=>hz2 498 hp
 simp only [go_sem,reduceEqDiff,c95,hv.frz,hz2',h1,h2]
theorem s94 (h:Has P L 94 c94) {m:Int} (hm:0≤m) (hm':m≤1000000) (x:Int):zx P L 94 [zh x,.vptr [zh m]] (.bool (decide (x< -m∨m<x))):=by
 unfold zx;rw [zd h];by_cases h1:x< -m
 ·simp only [go_sem,reduceEqDiff,c94,zhE,zf (n:=0-m) (by omega) (by omega),show x<0-m by omega,h1,true_or]
 ·by_cases h2:m<x
  ·simp only [go_sem,reduceEqDiff,c94,zhE,zf (n:=0-m) (by omega) (by omega),show ¬x<0-m by omega,h1,h2,or_true]
  ·simp only [go_sem,reduceEqDiff,c94,zhE,zf (n:=0-m) (by omega) (by omega),show ¬x<0-m by omega,h1,h2,or_self]
theorem zuv (m:Int) (l:List Int):l.any (fun x=>decide (x< -m∨m<x))=zbf (-m) m l:=by
 induction l with
 | nil=>rfl
 | cons a r ih=>
  simp only [List.any_cons,zbf,ih];by_cases h:a< -m∨m<a
  ·simp [h]
  ·simp [h]
structure Sq (P:zQ) (L:Lib):Prop where
 h32:Has P L 32 c32
 h31:Has P L 31 c31
 h33:Has P L 33 c33
 h94:Has P L 94 c94
 h95:Has P L 95 c95
 h132:Has P L 132 zwS
 h4:Has P L 4 c4
 h9:Has P L 9 c9
theorem s32 (h:Sq P L) {v:AV} {s:List (List Int)} (hv:IsS v s) (hl:s.length≤1000000) (hr:∀i (hi:i<s.length),s[i].length≤1000000) {m:Int} (hm:0≤m) (hm':m≤1000000):
  zx P L 32 [v,zh m] (zh (zc9 s.length (-m) m s)):=by
 have key:=zL (P:=P) (L:=L) (live:=[0,3,9,10,11]) (a:=zrf)
  (I:=fun k st=>∃(i:Nat) (rw:Bool),st=⟨[(0,v),(3,.ptr 0 0),(9,v),(10,zh s.length),(11,zh i)],[(0,.cells rw true true 1 [zh m])],1,0⟩∧i+k=s.length∧zc9 s.length (-m) m (s.drop i)=zc9 s.length (-m) m s)
  (Q:=fun ex st=>∃tm hp ct,st=⟨tm,hp,ct,0⟩∧((ex= .ret∧zc tm 4=zh (zc9 s.length (-m) m s))∨(ex= .exit 0∧zc9 s.length (-m) m s=0))) ?_
 ·unfold zx;rw [zd h.h32];simp only [go_sem,reduceEqDiff,reduceAdd,c32,hv.len];generalize hq:D P L (.loop [0,3,9,10,11] zrf) _=q;obtain ⟨ex,st,rfl,tm,hp,ct,rfl,h2⟩:=zY hq (key s.length) ⟨0,true,by simp only [go_sem,reduceEqDiff,reduceAdd,za,zb hv.pu,ze _ hv.pu]<;>rfl,by omega,rfl⟩
  rcases h2 with ⟨rfl,h2⟩ | ⟨rfl,h2⟩
  ·simp only [go_sem,h2]
  ·rw [h2];simp only [go_sem,za]
 ·rintro k st ⟨i,rw,rfl,hk,hf⟩;simp only [go_sem,reduceEqDiff,zrf];by_cases hi:i<s.length
  ·have hi':(i:Int)<s.length:=by omega
   rw [zha hi] at hf;obtain ⟨r,rest,hr1,hr2⟩:=hv.ixa hi;have hc:zx P L 95 [r,.fn (.f 94) [] [.vptr [zh m]]] (.bool (zbf (-m) m s[i])):=by
    rw [←zuv];exact s95 h.h95 h.h132 hr1 (hr i hi) rfl (fun x hp=>by simp only [go_sem]) (fun x=>s94 h.h94 hm hm' x) (fun n hp=>by simp only [go_sem])
   have hf2:∀a b:Int,zx P L 33 [.vsl true 2 [.int .i64 a,.int .i64 b]] (zh (zM [a,b])):=fun a b=>s33 h.h33 (za8 true [a,b]) (by simp)
   unfold zx at hc hf2;by_cases h1:s[i].length=s.length
   ·have h1':(s[i].length:Int)=s.length:=by omega
    simp only [h1,ne_eq,not_true_eq_false,if_false] at hf
    cases h2:zbf (-m) m s[i] with
    | false=>
     left
     simp only [h2,Bool.false_eq_true,if_false] at hf;cases rw<;>simp only [go_sem,reduceEqDiff,reduceAdd,reduceLT,reduceLeDiff,Nat.mul_one,hi',hr2,hc,h1',h2,s31 h.h31,hf2,hr1.len,hr1.frz,hv.len,Bool.false_eq_true,if_false,zM,if_true]
     all_goals
      refine ⟨_,k-1,rfl,by omega,i+1,false,?_,by omega,hf⟩;rw [zf (by omega) (by omega)];simp only [go_sem,reduceEqDiff,reduceAdd,za,zb hv.pu,ze _ hv.pu];rfl
    | true=>
     right
     simp only [h2,if_true] at hf;cases rw<;>simp only [go_sem,reduceEqDiff,reduceAdd,reduceLT,reduceLeDiff,Nat.mul_one,hi',hr2,hc,h1',h2,s31 h.h31,hf2,hr1.len,hr1.frz,hv.len,Bool.false_eq_true,if_false,zM,if_true,Int.reduceEq]
     all_goals
      refine ⟨_,_,rfl,by simp,_,_,_,rfl,.inl ⟨rfl,?_⟩⟩;simp only [go_sem,hf]
   ·right
    have h1':¬(s[i].length:Int)=s.length:=by omega
    simp only [h1,ne_eq,not_false_eq_true,if_true] at hf;cases h2:zbf (-m) m s[i]<;>cases rw<;>simp only [go_sem,reduceEqDiff,reduceAdd,reduceLT,reduceLeDiff,Nat.mul_one,hi',hr2,hc,h1',h2,s31 h.h31,hf2,hr1.len,hr1.frz,hv.len,Bool.false_eq_true,if_false,zM,if_true,Int.reduceEq]
    all_goals
     refine ⟨_,_,rfl,by simp,_,_,_,rfl,.inl ⟨rfl,?_⟩⟩;simp only [go_sem,hf]
  ·right
   have hi':¬(i:Int)<s.length:=by omega
   simp only [go_sem,hi'];refine ⟨_,_,rfl,by simp,_,_,_,rfl,.inr ⟨rfl,?_⟩⟩;rw [←hf,List.drop_eq_nil_of_le (by omega)];rfl
end
end VE
end
